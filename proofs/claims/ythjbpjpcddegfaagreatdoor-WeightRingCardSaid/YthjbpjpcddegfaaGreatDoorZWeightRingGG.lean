/- GG, for the statement WeightRing: what it needs, no more. -/
import Derived.Test.YthjbpjpcddegfaaGreatDoorZWeightRingGF
set_option linter.unusedVariables false
set_option maxRecDepth 8000
set_option maxHeartbeats 4000000
namespace Go.RM.Tryz
open Go.RM Go.Proofs
def r05_Same.b1 (a0 : TWeight) (a1 : TWeight) : Int → Rnd Int Unit Bool → Prop := fun x1 z1 => if x1 < (a0.Cells.length : Int) then (((InR x1 a0.Cells.length)) ∧ ((InR x1 a1.Cells.length)) ∧ if (((rdl a0.Cells x1).From == (rdl a1.Cells x1).From) && (((rdl a0.Cells x1).Kind == (rdl a1.Cells x1).Kind) && (((rdl a0.Cells x1).K == (rdl a1.Cells x1).K) && true))) = true then (z1 = .next (IntKind.i64.wrap (x1 + 1))) else (z1 = .ret false)) else (z1 = .exit ())
def r05_Same.b2 (self15 : TWeight → TWeight → Bool → Prop) (a0 : TWeight) (a1 : TWeight) : Int → Rnd Int Unit Bool → Prop := fun x2 z2 => if x2 < (a0.Parts.length : Int) then (((InR x2 a0.Parts.length)) ∧ ((InR x2 a1.Parts.length)) ∧ ∃ t27_10 : Bool, (self15 (rdl a0.Parts x2) (rdl a1.Parts x2) t27_10) ∧ if t27_10 = true then (z2 = .next (IntKind.i64.wrap (x2 + 1))) else (z2 = .ret false)) else (z2 = .exit ())
def r05_Same.step (self15 : TWeight → TWeight → Bool → Prop) (a0 : TWeight) (a1 : TWeight) (r : Bool) : Prop :=
  ∃ t2_17 : Bool, ((a0.Zero = a1.Zero) → (a0.Cost = a1.Cost) → r03_Same.f a0.Facts a1.Facts t2_17) ∧ if ((!(a0.Zero == a1.Zero)) || ((!(a0.Cost == a1.Cost)) || ((!t2_17) || ((!((a0.Cells.length : Int) == (a1.Cells.length : Int))) || ((a0.Parts.length : Int) != (a1.Parts.length : Int)))))) = true then (r = false) else (∃ o1 : Fin Unit Bool, Loop (r05_Same.b1 a0 a1) 0 o1 ∧ o1.on (fun _ => ∃ o2 : Fin Unit Bool, Loop (r05_Same.b2 self15 a0 a1) 0 o2 ∧ o2.on (fun _ => r = true) (fun r_ => r = r_)) (fun r_ => r = r_))
abbrev GG_c0 : List PV := [bo false, i6 0, u6 0, nul, nul, nul]
abbrev GG_c1 : List PV := [bo true, i6 0, u6 0, nul, nul, nul]
abbrev GG_c2 : List PV := [bo false, i6 0, u6 0, .rows (([] : List Int).map (cInt .u64)), .rows (([] : List TCell).map TCell.cells), .rows (([] : List TWeight).map TWeight.cells)]
theorem r05_Same.stepD {self15 : TWeight → TWeight → Bool → Prop} {a0 : TWeight} {a1 : TWeight} (hs15 : ∀ z0_ z1_ r_, self15 z0_ z1_ r_ → D Tryz.prog X (.callH 15 [.agg (TWeight.lit z0_), .agg (TWeight.lit z1_)] [] (.val (.bool r_)) [])) {r : Bool} (h : r05_Same.step self15 a0 a1 r) : D Tryz.prog X (.callH 15 [.agg (TWeight.lit a0), .agg (TWeight.lit a1)] [] (.val (.bool r)) []) := by
  unfold r05_Same.step at h
  refine .enter 82 0 fn15 q q q<|.seq<|.room 0<|.room 0<|.reg0 q (.o (bxP (s := 6) (cs := (TWeight.lit a0)) q ⟨q, by decide, q⟩ q)<|.op 1 q (bxP (s := 6) (cs := (TWeight.lit a1)) q ⟨q, by decide, q⟩ q)<|.o (asV q)<|.nil0)<|.seq<|.seq ?_
  obtain ⟨t2_17, g2_17, h⟩ := h
  refine .reg0 (e1 := listEnv [(2, .ptr 0 1 6 0 0), (3, .ptr 1 1 6 0 0), (44, bo ((!(a0.Zero == a1.Zero)) || ((!(a0.Cost == a1.Cost)) || ((!t2_17) || ((!((a0.Cells.length : Int) == (a1.Cells.length : Int))) || ((a0.Parts.length : Int) != (a1.Parts.length : Int)))))))]) (H1 := [⟨6, [(TWeight.lit a0)], 0, none⟩, ⟨6, [(TWeight.lit a1)], 0, none⟩]) q ?_ ?_
  · refine .o (faP fa33_0 q)<|.o (ldP q sz4 ag4 q)<|.o (faP fa33_0 q)<|.o (ldP q sz4 ag4 q)<|.o (neB un4 q q)<|.m q<|?_
    by_cases c1 : a0.Zero = a1.Zero
    · refine .g q (nf c1) (faP fa33_1 q)<|.g q (nf c1) (ldP q sz3 ag3 q)<|.g q (nf c1) (faP fa33_1 q)<|.g q (nf c1) (ldP q sz3 ag3 q)<|.g q (nf c1) (neI q q)<|.o (pkFV q (nf c1) q)<|.m q<|?_
      by_cases c2 : a0.Cost = a1.Cost
      · refine .g q (nf c2) (faP fa33_2 q)<|.g q (nf c2) (ldG q sz29 ag29 q)<|.g q (nf c2) (faP fa33_2 q)<|.g q (nf c2) (ldG q sz29 ag29 q)<|.callI (gT q q q (nf c2)) (callee_of q go42 q) (.pure q q (r03_Same.D (g2_17 c1 c2)))<|.g q (nf c2) (notB q)<|.o (pkFV q (nf c2) q)<|.m q<|?_
        by_cases c3 : t2_17 = true
        · refine .g q (bnotF c3) (faP fa33_3 q)<|.g q (bnotF c3) (ldP q sz30 ag30 q)<|.g q (bnotF c3) (lnR (l := a0.Cells) sl30 q)<|.g q (bnotF c3) (faP fa33_3 q)<|.g q (bnotF c3) (ldP q sz30 ag30 q)<|.g q (bnotF c3) (lnR (l := a1.Cells) sl30 q)<|.g q (bnotF c3) (neI q q)<|.o (pkFV q (bnotF c3) q)<|.m q<|?_
          by_cases c4 : (a0.Cells.length : Int) = (a1.Cells.length : Int)
          · exact (.g q (nf c4) (faP fa33_4 q)<|.g q (nf c4) (ldP q sz31 ag31 q)<|.g q (nf c4) (lnR (l := a0.Parts) sl31 q)<|.g q (nf c4) (faP fa33_4 q)<|.g q (nf c4) (ldP q sz31 ag31 q)<|.g q (nf c4) (lnR (l := a1.Parts) sl31 q)<|.g q (nf c4) (neI q q)<|.o (pkFV q (nf c4) q)<|.nilL _ ⟨.ptr q, .ptr q, cB q (mOrF (bnotF (bt c1)) (mOrF (bnotF (bt c2)) (mOrF (bnotF c3) (mOrF (bnotF (bt c4)) q)))), trivial⟩)
          · exact (.n q (nt c4)<|.n q (nt c4)<|.n q (nt c4)<|.n q (nt c4)<|.n q (nt c4)<|.n q (nt c4)<|.n q (nt c4)<|.o (pkTV q (nt c4) q)<|.nilL _ ⟨.ptr q, .ptr q, cB q (mOrF (bnotF (bt c1)) (mOrF (bnotF (bt c2)) (mOrF (bnotF c3) (mOrT (bnotT (bn c4)))))), trivial⟩)
        · exact (.n q (bnotT (nb c3))<|.n q (bnotT (nb c3))<|.n q (bnotT (nb c3))<|.n q (bnotT (nb c3))<|.n q (bnotT (nb c3))<|.n q (bnotT (nb c3))<|.n q (bnotT (nb c3))<|.o (pkTV q (bnotT (nb c3)) q)<|.m q<|.n q q<|.n q q<|.n q q<|.n q q<|.n q q<|.n q q<|.n q q<|.o (pkTV q q q)<|.nilL _ ⟨.ptr q, .ptr q, cB q (mOrF (bnotF (bt c1)) (mOrF (bnotF (bt c2)) (mOrT (bnotT (nb c3))))), trivial⟩)
      · exact (.n q (nt c2)<|.n q (nt c2)<|.n q (nt c2)<|.n q (nt c2)<|.n q (nt c2)<|.n q (nt c2)<|.o (pkTV q (nt c2) q)<|.m q<|.n q q<|.n q q<|.n q q<|.n q q<|.n q q<|.n q q<|.n q q<|.o (pkTV q q q)<|.m q<|.n q q<|.n q q<|.n q q<|.n q q<|.n q q<|.n q q<|.n q q<|.o (pkTV q q q)<|.nilL _ ⟨.ptr q, .ptr q, cB q (mOrF (bnotF (bt c1)) (mOrT (bnotT (bn c2)))), trivial⟩)
    · exact (.n q (nt c1)<|.n q (nt c1)<|.n q (nt c1)<|.n q (nt c1)<|.n q (nt c1)<|.o (pkTV q (nt c1) q)<|.m q<|.n q q<|.n q q<|.n q q<|.n q q<|.n q q<|.n q q<|.o (pkTV q q q)<|.m q<|.n q q<|.n q q<|.n q q<|.n q q<|.n q q<|.n q q<|.n q q<|.o (pkTV q q q)<|.m q<|.n q q<|.n q q<|.n q q<|.n q q<|.n q q<|.n q q<|.n q q<|.o (pkTV q q q)<|.nilL _ ⟨.ptr q, .ptr q, cB q (mOrT (bnotT (bn c1))), trivial⟩)
  by_cases c5 : ((!(a0.Zero == a1.Zero)) || ((!(a0.Cost == a1.Cost)) || ((!t2_17) || ((!((a0.Cells.length : Int) == (a1.Cells.length : Int))) || ((a0.Parts.length : Int) != (a1.Parts.length : Int)))))) = true
  · rw [if_pos c5] at h
    refine .condT q c5<|.seq<|.reg0 q (.o (asV q)<|.nil0) ?_
    replace h := h.symm
    subst h
    refine .kf [(4, bo false)] q q ?_
    exact .ret q
  · rw [if_neg c5] at h
    refine .condF q (nb c5)<|.skip<|.seq<|.seq<|.reg0 q (.o (asV q)<|.nil0)<|.block<|.keepL [0, 1] [(2, .ptr 0 1 6 0 0), (3, .ptr 1 1 6 0 0), (5, i6 0)] [⟨6, [(TWeight.lit a0)], 0, none⟩, ⟨6, [(TWeight.lit a1)], 0, none⟩] (by decide) (by decide) ⟨.ptr q, .ptr q, .free q q, trivial⟩ ⟨⟨_, q, bcBox (all2_free q)⟩, ⟨_, q, bcBox (all2_free q)⟩, trivial⟩ ?_
    obtain ⟨o1, hL1, h⟩ := h
    refine .loopB (r05_Same.b1 a0 a1) (fun x1 => listEnv [(2, .ptr 0 1 6 0 0), (3, .ptr 1 1 6 0 0), (5, i6 x1)]) (fun x1 => [⟨6, [(TWeight.lit a0)], 0, none⟩, ⟨6, [(TWeight.lit a1)], 0, none⟩]) (fun _ => listEnv [(2, .ptr 0 1 6 0 0), (3, .ptr 1 1 6 0 0)]) (fun _ => [⟨6, [(TWeight.lit a0)], 0, none⟩, ⟨6, [(TWeight.lit a1)], 0, none⟩]) hL1 (fun r_ => r = r_) ?_ ?_ ?_
    · rintro ⟨⟩ rfl
      try dsimp only [Fin.on] at h
      refine .seq<|.seq<|.reg0 q (.o (asV q)<|.nil0)<|.block<|.keepL [0, 1] [(2, .ptr 0 1 6 0 0), (3, .ptr 1 1 6 0 0), (6, i6 0)] [⟨6, [(TWeight.lit a0)], 0, none⟩, ⟨6, [(TWeight.lit a1)], 0, none⟩] (by decide) (by decide) ⟨.ptr q, .ptr q, .free q q, trivial⟩ ⟨⟨_, q, bcBox (all2_free q)⟩, ⟨_, q, bcBox (all2_free q)⟩, trivial⟩ ?_
      obtain ⟨o2, hL2, h⟩ := h
      refine .loopB (r05_Same.b2 self15 a0 a1) (fun x2 => listEnv [(2, .ptr 0 1 6 0 0), (3, .ptr 1 1 6 0 0), (6, i6 x2)]) (fun x2 => [⟨6, [(TWeight.lit a0)], 0, none⟩, ⟨6, [(TWeight.lit a1)], 0, none⟩]) (fun _ => listEnv []) (fun _ => []) hL2 (fun r_ => r = r_) ?_ ?_ ?_
      · rintro ⟨⟩ rfl
        try dsimp only [Fin.on] at h
        refine .seq<|.reg0 q (.o (asV q)<|.nil0) ?_
        replace h := h.symm
        subst h
        refine .kf [(4, bo true)] q q ?_
        exact .ret q
      · rintro r_ rfl
        exact h
      · rintro x2 z2 h hn2 hx2 hr2
        dsimp only [r05_Same.b2] at h
        refine .seq<|.seq<|.reg0 q (.o (mvV q)<|.o (faP fa33_4 q)<|.o (ldP q sz31 ag31 q)<|.o (lnR (l := a0.Parts) sl31 q)<|.o (ltI q q)<|.nil0) ?_
        by_cases c16 : x2 < (a0.Parts.length : Int)
        · rw [if_pos c16] at h
          refine .condT q (dt c16)<|.skip<|.seq<|.block<|.seq ?_
          obtain ⟨g27_3, h⟩ := h
          obtain ⟨g27_8, h⟩ := h
          obtain ⟨t27_10, g27_10, h⟩ := h
          refine .reg1 (e1 := listEnv [(2, .ptr 0 1 6 0 0), (3, .ptr 1 1 6 0 0), (6, i6 x2), (81, bo (!t27_10))]) (H1 := [⟨6, [(TWeight.lit a0)], 0, none⟩, ⟨6, [(TWeight.lit a1)], 0, none⟩]) q ?_ ?_
          · exact .drawM [(11, 81, bo (!t27_10)), (10, 80, bo t27_10), (9, 79, .agg (TWeight.lit (rdl a1.Parts x2))), (8, 78, .cptr (TWeight.lit (rdl a1.Parts x2)) 0), (7, 77, i6 x2), (6, 76, .rows (a1.Parts.map TWeight.cells)), (5, 75, .ptr 1 1 6 0 5), (4, 74, .agg (TWeight.lit (rdl a0.Parts x2))), (3, 73, .cptr (TWeight.lit (rdl a0.Parts x2)) 0), (2, 72, i6 x2), (1, 71, .rows (a0.Parts.map TWeight.cells)), (0, 70, .ptr 0 1 6 0 5)] [] [[], [0], [], [1, 0, 2], [3, 1, 0, 2], [], [5], [], [6, 5, 7], [8, 6, 5, 7], [4, 3, 1, 0, 2, 9, 8, 6, 5, 7], [10, 4, 3, 1, 0, 2, 9, 8, 6, 5, 7]] (by rfl) (by rfl) (by rfl) (by exact ⟨oP (fun _ => faP fa33_4 q) q, oP (fun _ => ldP q sz31 ag31 q) q, oP (fun _ => mvV q) q, oP (fun _ => ixR (l := a0.Parts) (lit := TWeight.lit) sl31 q q TWeight.cells_lit g27_3.1 g27_3.2) q, oP (fun _ => ldCG q sz33 ag33 q) q, oP (fun _ => faP fa33_4 q) q, oP (fun _ => ldP q sz31 ag31 q) q, oP (fun _ => mvV q) q, oP (fun _ => ixR (l := a1.Parts) (lit := TWeight.lit) sl31 q q TWeight.cells_lit g27_8.1 g27_8.2) q, oP (fun _ => ldCG q sz33 ag33 q) q, fun S hS hD hn => .oneI hS hD hn q q (callee_of q go15 q) (.pure q q (hs15 _ _ _ g27_10)) q q q, oP (fun _ => notB q) q, trivial⟩) _ (by exact ⟨.ptr q, .ptr q, .free q q, .free q q, trivial⟩) (by rfl)
          by_cases c17 : t27_10 = true
          · rw [if_pos c17] at h
            refine .condF q (bnotF c17)<|.skip<|.inBlock<|.reg0 q (.o (mvV q)<|.o (addI q q)<|.o (asV q)<|.nil0)<|.keepL [0, 1] [(2, .ptr 0 1 6 0 0), (3, .ptr 1 1 6 0 0), (6, i6 (IntKind.i64.wrap (x2 + 1)))] [⟨6, [(TWeight.lit a0)], 0, none⟩, ⟨6, [(TWeight.lit a1)], 0, none⟩] (by decide) (by decide) ⟨.ptr q, .ptr q, .free q q, trivial⟩ ⟨⟨_, q, bcBox (all2_free q)⟩, ⟨_, q, bcBox (all2_free q)⟩, trivial⟩ ?_
            exact hn2 _ h
          · rw [if_neg c17] at h
            refine .condT q (bnotT (nb c17))<|.seq<|.reg0 q (.o (asV q)<|.nil0) ?_
            have q6 := hr2 _ h
            replace q6 := q6.symm
            subst q6
            refine .kf [(4, bo false)] q q ?_
            exact .ret q
        · rw [if_neg c16] at h
          refine .condF q (df c16)<|.exit q<|.keepL [] [] [] (by decide) (by decide) trivial trivial ?_
          exact hx2 _ h
    · rintro r_ rfl
      exact h
    · rintro x1 z1 h hn1 hx1 hr1
      dsimp only [r05_Same.b1] at h
      refine .seq<|.seq<|.reg0 q (.o (mvV q)<|.o (faP fa33_3 q)<|.o (ldP q sz30 ag30 q)<|.o (lnR (l := a0.Cells) sl30 q)<|.o (ltI q q)<|.nil0) ?_
      by_cases c10 : x1 < (a0.Cells.length : Int)
      · rw [if_pos c10] at h
        refine .condT q (dt c10)<|.skip<|.seq<|.block<|.seq ?_
        obtain ⟨g14_3, h⟩ := h
        obtain ⟨g14_8, h⟩ := h
        refine .reg1 (e1 := listEnv [(2, .ptr 0 1 6 0 0), (3, .ptr 1 1 6 0 0), (5, i6 x1), (62, bo (!(((rdl a0.Cells x1).From == (rdl a1.Cells x1).From) && (((rdl a0.Cells x1).Kind == (rdl a1.Cells x1).Kind) && (((rdl a0.Cells x1).K == (rdl a1.Cells x1).K) && true)))))]) (H1 := [⟨6, [(TWeight.lit a0)], 0, none⟩, ⟨6, [(TWeight.lit a1)], 0, none⟩]) q ?_ ?_
        · exact .drawM [(10, 62, bo (!(((rdl a0.Cells x1).From == (rdl a1.Cells x1).From) && (((rdl a0.Cells x1).Kind == (rdl a1.Cells x1).Kind) && (((rdl a0.Cells x1).K == (rdl a1.Cells x1).K) && true))))), (9, 61, .agg (TCell.lit (rdl a1.Cells x1))), (8, 60, .cptr (TCell.lit (rdl a1.Cells x1)) 0), (7, 59, i6 x1), (6, 58, .rows (a1.Cells.map TCell.cells)), (5, 57, .ptr 1 1 6 0 4), (4, 56, .agg (TCell.lit (rdl a0.Cells x1))), (3, 55, .cptr (TCell.lit (rdl a0.Cells x1)) 0), (2, 54, i6 x1), (1, 53, .rows (a0.Cells.map TCell.cells)), (0, 52, .ptr 0 1 6 0 4)] [] [[], [0], [], [1, 0, 2], [3, 1, 0, 2], [], [5], [], [6, 5, 7], [8, 6, 5, 7], [4, 3, 1, 0, 2, 9, 8, 6, 5, 7]] (by rfl) (by rfl) (by rfl) (by exact ⟨oP (fun _ => faP fa33_3 q) q, oP (fun _ => ldP q sz30 ag30 q) q, oP (fun _ => mvV q) q, oP (fun _ => ixR (l := a0.Cells) (lit := TCell.lit) sl30 q q (fun _ => q) g14_3.1 g14_3.2) q, oP (fun _ => ldCG q sz74 ag74 q) q, oP (fun _ => faP fa33_3 q) q, oP (fun _ => ldP q sz30 ag30 q) q, oP (fun _ => mvV q) q, oP (fun _ => ixR (l := a1.Cells) (lit := TCell.lit) sl30 q q (fun _ => q) g14_8.1 g14_8.2) q, oP (fun _ => ldCG q sz74 ag74 q) q, oP (fun _ => neS (xs := [.int .u64 ((rdl a0.Cells x1).From), .int .i64 ((rdl a0.Cells x1).Kind), .int .i64 ((rdl a0.Cells x1).K)]) (ys := [.int .u64 ((rdl a1.Cells x1).From), .int .i64 ((rdl a1.Cells x1).Kind), .int .i64 ((rdl a1.Cells x1).K)]) ek74 q q q q q) q, trivial⟩) _ (by exact ⟨.ptr q, .ptr q, .free q q, .free q q, trivial⟩) (by rfl)
        by_cases c11 : (((rdl a0.Cells x1).From == (rdl a1.Cells x1).From) && (((rdl a0.Cells x1).Kind == (rdl a1.Cells x1).Kind) && (((rdl a0.Cells x1).K == (rdl a1.Cells x1).K) && true))) = true
        · rw [if_pos c11] at h
          refine .condF q (bnotF c11)<|.skip<|.inBlock<|.reg0 q (.o (mvV q)<|.o (addI q q)<|.o (asV q)<|.nil0)<|.keepL [0, 1] [(2, .ptr 0 1 6 0 0), (3, .ptr 1 1 6 0 0), (5, i6 (IntKind.i64.wrap (x1 + 1)))] [⟨6, [(TWeight.lit a0)], 0, none⟩, ⟨6, [(TWeight.lit a1)], 0, none⟩] (by decide) (by decide) ⟨.ptr q, .ptr q, .free q q, trivial⟩ ⟨⟨_, q, bcBox (all2_free q)⟩, ⟨_, q, bcBox (all2_free q)⟩, trivial⟩ ?_
          exact hn1 _ h
        · rw [if_neg c11] at h
          refine .condT q (bnotT (nb c11))<|.seq<|.reg0 q (.o (asV q)<|.nil0) ?_
          have q3 := hr1 _ h
          replace q3 := q3.symm
          subst q3
          refine .kf [(4, bo false)] q q ?_
          exact .ret q
      · rw [if_neg c10] at h
        refine .condF q (df c10)<|.exit q<|.keepL [0, 1] [(2, .ptr 0 1 6 0 0), (3, .ptr 1 1 6 0 0)] [⟨6, [(TWeight.lit a0)], 0, none⟩, ⟨6, [(TWeight.lit a1)], 0, none⟩] (by decide) (by decide) ⟨.ptr q, .ptr q, trivial⟩ ⟨⟨_, q, bcBox (all2_free q)⟩, ⟨_, q, bcBox (all2_free q)⟩, trivial⟩ ?_
        exact hx1 _ h
def r05_Same.fN : Nat → TWeight → TWeight → Bool → Prop
  | 0 => fun _ _ _ => False
  | n + 1 => r05_Same.step (r05_Same.fN n)
theorem r05_Same.ND : ∀ (n : Nat) {a0 : TWeight} {a1 : TWeight} {r : Bool} (h : r05_Same.fN n a0 a1 r), D Tryz.prog X (.callH 15 [.agg (TWeight.lit a0), .agg (TWeight.lit a1)] [] (.val (.bool r)) [])
  | 0, _, _, _, h => h.elim
  | n + 1, _, _, _, h => r05_Same.stepD (fun _ _ _ h => r05_Same.ND n h) h
def r05_Same.f (a0 : TWeight) (a1 : TWeight) (r : Bool) : Prop := ∃ n, r05_Same.fN n a0 a1 r
theorem r05_Same.D {a0 a1 r} (h : r05_Same.f a0 a1 r) : D Tryz.prog X (.callH 15 [.agg (TWeight.lit a0), .agg (TWeight.lit a1)] [] (.val (.bool r)) []) := by obtain ⟨n, h⟩ := h; exact r05_Same.ND n h
def cost_Sum.b1 (a0 : Int) (a1 : List Int) : (Int × Int) → Rnd ((Int × Int)) Int (Int × Int) → Prop := fun (x1, x2) z1 => if x2 < (a1.length : Int) then (((InR x2 a1.length)) ∧ if (rdl a1 x2) = (-1) then (z1 = .ret ((-1), 0)) else (z1 = .next ((if a0 < (IntKind.i64.wrap (x1 + (rdl a1 x2))) then a0 else (IntKind.i64.wrap (x1 + (rdl a1 x2)))), (IntKind.i64.wrap (x2 + 1))))) else (z1 = .exit x1)
def cost_Sum.f (a0 : Int) (a1 : List Int) (r : Int × Int) : Prop :=
  ∃ t2_2 : Int, (cost_checks.f a0 a1 t2_2) ∧ if t2_2 = 0 then (∃ o1 : Fin Int (Int × Int), Loop (cost_Sum.b1 a0 a1) (0, 0) o1 ∧ o1.on (fun x3 => r = (x3, 0)) (fun r_ => r = r_)) else (r = (0, t2_2))
theorem cost_Sum.D {a0 a1 r} (h : cost_Sum.f a0 a1 r) : D Tryz.prog X (.callH 81 [.val (.int .i64 a0), .rows (a1.map (cInt .i64))] [] (.tuple [.val (.int .i64 r.1), .val (.int .i64 r.2)]) []) := by
  unfold cost_Sum.f at h
  refine .enter 31 0 fn81 q q q<|.seq<|.reg0 q (.o (asV q)<|.o (asV q)<|.nil0)<|.seq<|.seq ?_
  obtain ⟨t2_2, g2_2, h⟩ := h
  refine .reg0 q (.m q<|.o (mvR q)<|.c q go88 q q q (cost_checks.D g2_2)<|.a q<|.nil0)<|.seq<|.reg0 q (.o (mvV q)<|.o (neI q q)<|.nil0) ?_
  by_cases c1 : t2_2 = 0
  · rw [if_pos c1] at h
    refine .condF q (nf c1)<|.skip<|.seq<|.reg0 q (.o (asV q)<|.nil0)<|.seq<|.seq<|.reg0 q (.o (mvR q)<|.o (lnR (l := a1) sl152 q)<|.o (mvV q)<|.nil0)<|.block<|.keepL [] [(0, i6 a0), (7, i6 0), (16, .rows (a1.map (cInt .i64))), (17, i6 (a1.length : Int)), (18, i6 0)] [] (by decide) (by decide) ⟨.free q q, .free q q, .free q q, .free q q, .free q q, trivial⟩ trivial ?_
    obtain ⟨o1, hL1, h⟩ := h
    refine .loopB (cost_Sum.b1 a0 a1) (fun (x1, x2) => listEnv [(0, i6 a0), (7, i6 x1), (16, .rows (a1.map (cInt .i64))), (17, i6 (a1.length : Int)), (18, i6 x2)]) (fun (x1, x2) => []) (fun x3 => listEnv [(7, i6 x3)]) (fun x3 => []) hL1 (fun r_ => r = r_) ?_ ?_ ?_
    · rintro x3 rfl
      try dsimp only [Fin.on] at h
      refine .seq<|.reg0 q (.o (mvV q)<|.o (asV q)<|.o (asV q)<|.nil0) ?_
      replace h := h.symm
      subst h
      refine .kf [(4, i6 x3), (5, i6 0)] q q ?_
      exact .ret q
    · rintro r_ rfl
      exact h
    · rintro ⟨x1, x2⟩ z1 h hn1 hx1 hr1
      dsimp only [cost_Sum.b1] at h
      refine .seq<|.reg0 q (.o (ltI q q)<|.nil0)<|.seq ?_
      by_cases c6 : x2 < (a1.length : Int)
      · rw [if_pos c6] at h
        refine .condT q (dt c6)<|.skip<|.seq<|.block<|.seq ?_
        obtain ⟨g19_0, h⟩ := h
        refine .reg0 q (.o (ixR (l := a1) (lit := (cInt .i64)) sl152 q q (fun _ => q) g19_0.1 g19_0.2)<|.o (ldC q sz3 ag3 q)<|.a q<|.nil0)<|.seq<|.seq<|.reg0 q (.o (mvV q)<|.o (eqI q q)<|.nil0) ?_
        by_cases c7 : (rdl a1 x2) = (-1)
        · rw [if_pos c7] at h
          refine .condT q (bt c7)<|.seq<|.reg0 q (.o (asV q)<|.o (asV q)<|.nil0) ?_
          have q3 := hr1 _ h
          replace q3 := q3.symm
          subst q3
          refine .kf [(4, i6 (-1)), (5, i6 0)] q q ?_
          exact .ret q
        · rw [if_neg c7] at h
          refine .condF q (bn c7)<|.skip<|.reg0 q (.o (mvV q)<|.o (mvV q)<|.o (addI q q)<|.o (mvV q)<|.o (minI q q)<|.o (asV q)<|.nil0)<|.inBlock<|.reg0 q (.o (addI q q)<|.o (mvV q)<|.nil0)<|.kf [(0, i6 a0), (7, i6 (if a0 < (IntKind.i64.wrap (x1 + (rdl a1 x2))) then a0 else (IntKind.i64.wrap (x1 + (rdl a1 x2))))), (16, .rows (a1.map (cInt .i64))), (17, i6 (a1.length : Int)), (18, i6 (IntKind.i64.wrap (x2 + 1)))] q q ?_
          exact hn1 _ h
      · rw [if_neg c6] at h
        refine .condF q (df c6)<|.exit q<|.keepL [] [(7, i6 x1)] [] (by decide) (by decide) ⟨.free q q, trivial⟩ trivial ?_
        exact hx1 _ h
  · rw [if_neg c1] at h
    refine .condT q (nt c1)<|.seq<|.reg0 q (.o (mvV q)<|.o (asV q)<|.o (asV q)<|.nil0) ?_
    replace h := h.symm
    subst h
    refine .kf [(4, i6 0), (5, i6 t2_2)] q q ?_
    exact .ret q
def facts_makes.f (a0 : TFacts) (a1 : Int) (r : Int) : Prop := MakesOk a0.Gen a0.Rows a1 ∧ r = makesI a0.Gen a0.Rows a1
theorem facts_makes.D {a0 a1 r} (h : facts_makes.f a0 a1 r) : D Tryz.prog X (.callH 128 [.agg (TFacts.lit a0), .val (.int .u64 a1)] [] (.val (.int .u64 r)) []) := .ext (x_makes h)
def facts_Extend.b1 (a0 : Int) (a1 : TFacts) (a2 : TFacts) : ((List Int) × Int) → Rnd (((List Int) × Int)) ((List Int)) (TFacts × Int) → Prop := fun (x1, x2) z1 => if x2 < ((List.replicate (Int.toNat a0) (0 : Int)).length : Int) then (((InR x2 a1.Rows.length)) ∧ ∃ t16_9 : Int, (facts_makes.f a2 (rdl a1.Rows x2) t16_9) ∧ ((InR x2 x1.length)) ∧ z1 = .next ((setl x1 x2 t16_9), (IntKind.i64.wrap (x2 + 1)))) else (z1 = .exit x1)
def facts_Extend.f (a0 : Int) (a1 : TFacts) (a2 : TFacts) (r : TFacts × Int) : Prop :=
  ∃ t2_4 : Int, (facts_checked.f a0 [a1, a2] t2_4) ∧ if t2_4 = 0 then (∃ t4_3 : Int, (facts_makes.f a2 a1.Gen t4_3) ∧ (((0 : Int) ≤ a0 ∧ Fits a0 8)) ∧ ∃ o1 : Fin ((List Int)) (TFacts × Int), Loop (facts_Extend.b1 a0 a1 a2) ((List.replicate (Int.toNat a0) (0 : Int)), 0) o1 ∧ o1.on (fun x3 => ∃ t18_1 : TFacts, (facts_canon.f (TFacts.mk t4_3 x3) t18_1) ∧ r = (t18_1, 0)) (fun r_ => r = r_)) else (r = ((TFacts.mk 0 []), t2_4))
theorem facts_Extend.D {a0 a1 a2 r} (h : facts_Extend.f a0 a1 a2 r) : D Tryz.prog X (.callH 82 [.val (.int .i64 a0), .agg (TFacts.lit a1), .agg (TFacts.lit a2)] [] (.tuple [.agg (TFacts.lit r.1), .val (.int .i64 r.2)]) []) := by
  unfold facts_Extend.f at h
  refine .enter 47 0 fn82 q q q<|.seq<|.room 0<|.room 0<|.room 0<|.reg0 q (.o (bxP (s := 2) (cs := (TFacts.lit a1)) q ⟨q, by decide, q⟩ q)<|.op 1 q (bxP (s := 2) (cs := (TFacts.lit a2)) q ⟨q, by decide, q⟩ q)<|.op 2 q (alP (s := 2) ze29 ⟨q, by decide, q⟩ q)<|.o (asV q)<|.nil0)<|.seq<|.seq ?_
  obtain ⟨t2_4, g2_4, h⟩ := h
  refine .room 0<|.reg0 q (.o (mvV q)<|.o (ldG q sz29 ag29 q)<|.o (ldG q sz29 ag29 q)<|.op 3 q (bldL (s := 2) (cs := [u6 a1.Gen, .rows (a1.Rows.map (cInt .u64)), u6 a2.Gen, .rows (a2.Rows.map (cInt .u64))]) un178 sz29 ze29 ⟨by decide, q, by decide⟩ q q q q)<|.callI q (callee_of q go122 q) (.lendC (args' := [i6 a0, .rows ([a1, a2].map TFacts.cells)])  [3] false (.cons (.free q q)<|.cons (cFixO (l := [a1, a2]) sl178 q q q q)<|.nil) (by decide) q q q q (facts_checked.D g2_4))<|.o (asV q)<|.nil0) ?_
  refine .seq<|.reg0 q (.o (mvV q)<|.o (neI q q)<|.nil0) ?_
  by_cases c1 : t2_4 = 0
  · rw [if_pos c1] at h
    refine .condF q (nf c1)<|.skip<|.seq ?_
    obtain ⟨t4_3, g4_3, h⟩ := h
    obtain ⟨g4_5, h⟩ := h
    refine .room 0<|.room 0 ?_
    refine .reg1 (e1 := listEnv [(4, .ptr 0 1 2 0 0), (5, .ptr 1 1 2 0 0), (6, .ptr 2 1 2 0 0), (9, .ptr 5 1 2 0 0)]) (H1 := [⟨2, [(TFacts.lit a1)], 0, none⟩, ⟨2, [(TFacts.lit a2)], 0, none⟩, ⟨2, [[u6 0, nul]], 0, none⟩, ⟨2, [a1, a2].map TFacts.cells, 0, none⟩, ⟨1, (List.replicate (Int.toNat a0) (0 : Int)).map (cInt .u64), 0, none⟩, ⟨2, [[u6 t4_3, .own 4 ((List.replicate (Int.toNat a0) (0 : Int)).length)]], 0, none⟩]) q ?_ ?_
    · exact .drawM [(7, 9, .ptr 5 1 2 0 0), (6, 26, .agg [u6 t4_3, .own 4 ((List.replicate (Int.toNat a0) (0 : Int)).length)]), (5, 25, .own 4 ((List.replicate (Int.toNat a0) (0 : Int)).length)), (4, 24, i6 a0), (3, 23, u6 t4_3), (2, 22, u6 a1.Gen), (1, 21, .ptr 0 1 2 0 0), (0, 20, .agg (TFacts.lit a2))] [(8, 5, ⟨2, [[u6 t4_3, .own 4 ((List.replicate (Int.toNat a0) (0 : Int)).length)]], 0, none⟩), (7, 5, ⟨2, [[u6 0, nul]], 0, none⟩), (5, 4, ⟨1, (List.replicate (Int.toNat a0) (0 : Int)).map (cInt .u64), 0, none⟩)] [[], [], [1], [0, 2, 1], [], [4], [3, 0, 2, 1, 5, 4], [], [7, 6, 3, 0, 2, 1, 5, 4]] (by rfl) (by rfl) (by rfl) (by exact ⟨oP (fun _ => ldG q sz29 ag29 q) q, oP (fun _ => faP fa29_0 q) q, oP (fun _ => ldP q sz26 ag26 q) q, fun S hS hD hn => .oneI hS hD hn q q (callee_of q go128 q) (.pure q q (facts_makes.D g4_3)) q q q, oP (fun _ => mvV q) q, oW 4 (fun _ => mkS (z0 := (0 : Int)) sl27 un27 ze26 q q g4_5.1 g4_5.2 q) q fun _ => q, oP (fun _ => bldS (cs := [u6 t4_3, .own 4 ((List.replicate (Int.toNat a0) (0 : Int)).length)]) ze29 pl29 q q) q, oW 5 (fun _ => alP (s := 2) ze29 ⟨q, by decide, q⟩ q) q fun _ => q, fun S hS hD hn => .one0 0 q q (stB (cs0 := [u6 0, nul]) (cs := [u6 t4_3, .own 4 ((List.replicate (Int.toNat a0) (0 : Int)).length)]) (cs1 := [u6 t4_3, .own 4 ((List.replicate (Int.toNat a0) (0 : Int)).length)]) q q sz29 q ⟨Nat.le_of_ble_eq_true q, q⟩ q) (drawE_other _ _ _ _ q) q, trivial⟩) _ (by exact ⟨.ptr q, .ptr q, .ptr q, .ptr q, trivial⟩) (by rfl)
    refine .seq<|.seq<|.reg0 q (.o (faP fa29_1 q)<|.o (ldP q sz27 ag27 q)<|.o (lnO (l := (List.replicate (Int.toNat a0) (0 : Int))) sl27 q q q)<|.o (mvV q)<|.nil0)<|.block<|.keepL [0, 1, 2, 5, 4] [(4, .ptr 0 1 2 0 0), (5, .ptr 1 1 2 0 0), (6, .ptr 2 1 2 0 0), (9, .ptr 3 1 2 0 0), (29, i6 ((List.replicate (Int.toNat a0) (0 : Int)).length : Int)), (30, i6 0)] [⟨2, [(TFacts.lit a1)], 0, none⟩, ⟨2, [(TFacts.lit a2)], 0, none⟩, ⟨2, [[u6 0, nul]], 0, none⟩, ⟨2, [[u6 t4_3, .own 4 ((List.replicate (Int.toNat a0) (0 : Int)).length)]], 0, none⟩, ⟨1, (List.replicate (Int.toNat a0) (0 : Int)).map (cInt .u64), 0, none⟩] (by decide) (by decide) ⟨.ptr q, .ptr q, .ptr q, .ptr q, .free q q, .free q q, trivial⟩ ⟨⟨_, q, bcBox (all2_free q)⟩, ⟨_, q, bcBox (all2_free q)⟩, ⟨_, q, bcBox (all2_free q)⟩, ⟨_, q, bcBox (.cons (.free q q)<|.cons (.own q)<|.nil)⟩, ⟨_, q, bcRow (l := (List.replicate (Int.toNat a0) (0 : Int))) sl27 (Nat.le_refl _) q⟩, trivial⟩ ?_
    obtain ⟨o1, hL1, h⟩ := h
    refine .loopB (facts_Extend.b1 a0 a1 a2) (fun (x1, x2) => listEnv [(4, .ptr 0 1 2 0 0), (5, .ptr 1 1 2 0 0), (6, .ptr 2 1 2 0 0), (9, .ptr 3 1 2 0 0), (29, i6 ((List.replicate (Int.toNat a0) (0 : Int)).length : Int)), (30, i6 x2)]) (fun (x1, x2) => [⟨2, [(TFacts.lit a1)], 0, none⟩, ⟨2, [(TFacts.lit a2)], 0, none⟩, ⟨2, [[u6 0, nul]], 0, none⟩, ⟨2, [[u6 t4_3, .own 4 x1.length]], 0, none⟩, ⟨1, x1.map (cInt .u64), 0, none⟩]) (fun x3 => listEnv [(6, .ptr 0 1 2 0 0), (9, .ptr 1 1 2 0 0)]) (fun x3 => [⟨2, [[u6 0, nul]], 0, none⟩, ⟨2, [[u6 t4_3, .own 2 x3.length]], 0, none⟩, ⟨1, x3.map (cInt .u64), 0, none⟩]) hL1 (fun r_ => r = r_) ?_ ?_ ?_
    · rintro x3 rfl
      try dsimp only [Fin.on] at h
      refine .seq ?_
      obtain ⟨t18_1, g18_1, h⟩ := h
      refine .reg0 q (.o (ldG q sz29 ag29 q)<|.callI q (callee_of q go123 q) (.lendC (args' := [.agg [u6 t4_3, .rows (x3.map (cInt .u64))]])  [2] true (.cons (cAgg (.cons (.free q q)<|.cons (cFixO (l := x3) sl27 q q q q)<|.nil))<|.nil) (by decide) q q q q (facts_canon.D g18_1))<|.o (stB (cs0 := [u6 0, nul]) (cs := (TFacts.lit t18_1)) (cs1 := (TFacts.lit t18_1)) q q sz29 q ⟨Nat.le_of_ble_eq_true q, q⟩ q)<|.a q<|.nil0) ?_
      replace h := h.symm
      subst h
      refine .k [(6, .cptr (TFacts.lit t18_1) 0), (7, i6 0)] ⟨cFixP q q (.cons (.free q q)<|.cons (.free q q)<|.nil), .free q q, trivial⟩ ?_
      exact .ret q
    · rintro r_ rfl
      exact h
    · rintro ⟨x1, x2⟩ z1 h hn1 hx1 hr1
      dsimp only [facts_Extend.b1] at h
      refine .seq<|.reg0 q (.o (ltI q q)<|.nil0)<|.seq ?_
      by_cases c4 : x2 < ((List.replicate (Int.toNat a0) (0 : Int)).length : Int)
      · rw [if_pos c4] at h
        refine .condT q (dt c4)<|.skip<|.seq<|.block<|.seq<|.reg0 q (.o (mvV q)<|.o (asV q)<|.nil0) ?_
        obtain ⟨g16_7, h⟩ := h
        obtain ⟨t16_9, g16_9, h⟩ := h
        obtain ⟨g16_10, h⟩ := h
        refine .reg1 (e1 := listEnv [(4, .ptr 0 1 2 0 0), (5, .ptr 1 1 2 0 0), (6, .ptr 2 1 2 0 0), (9, .ptr 3 1 2 0 0), (29, i6 ((List.replicate (Int.toNat a0) (0 : Int)).length : Int)), (30, i6 x2)]) (H1 := [⟨2, [(TFacts.lit a1)], 0, none⟩, ⟨2, [(TFacts.lit a2)], 0, none⟩, ⟨2, [[u6 0, nul]], 0, none⟩, ⟨2, [[u6 t4_3, .own 4 x1.length]], 0, none⟩, ⟨1, (setl x1 x2 t16_9).map (cInt .u64), 0, none⟩]) q ?_ ?_
        · exact .drawM [(10, 43, .ptr 4 x1.length 1 (Int.toNat x2) 0), (9, 42, u6 t16_9), (8, 41, u6 (rdl a1.Rows x2)), (7, 40, .cptr ((cInt .u64) (rdl a1.Rows x2)) 0), (6, 39, i6 x2), (5, 38, .rows (a1.Rows.map (cInt .u64))), (4, 37, .ptr 0 1 2 0 1), (3, 36, .agg (TFacts.lit a2)), (2, 35, i6 x2), (1, 34, .own 4 x1.length), (0, 33, .ptr 3 1 2 0 1)] [(11, 4, ⟨1, (setl x1 x2 t16_9).map (cInt .u64), 0, none⟩)] [[], [0], [], [], [], [4], [], [5, 4, 6], [7, 5, 4, 6], [3, 8, 7, 5, 4, 6], [1, 0, 2, 3, 4, 5, 6, 7, 8, 9], [10, 1, 0, 2, 3, 4, 5, 6, 7, 8, 9]] (by rfl) (by rfl) (by rfl) (by exact ⟨oP (fun _ => faP fa29_1 q) q, oP (fun _ => ldP q sz27 ag27 q) q, oP (fun _ => mvV q) q, oP (fun _ => ldG q sz29 ag29 q) q, oP (fun _ => faP fa29_1 q) q, oP (fun _ => ldP q sz27 ag27 q) q, oP (fun _ => mvV q) q, oP (fun _ => ixR (l := a1.Rows) (lit := (cInt .u64)) sl27 q q (fun _ => q) g16_7.1 g16_7.2) q, oP (fun _ => ldC q sz26 ag26 q) q, fun S hS hD hn => .oneI hS hD hn q q (callee_of q go128 q) (.pure q q (facts_makes.D g16_9)) q q q, oP (fun _ => ixO (l := x1) sl27 q q q q g16_10.1 g16_10.2) q, fun S hS hD hn => .one0 0 q q (stO (l := x1) (j := x2) (cs := [u6 t16_9]) t16_9 sl27 q q sz26 q q g16_10.1 g16_10.2 (Nat.zero_le _) ⟨Nat.le_of_ble_eq_true q, q⟩ q) (drawE_other _ _ _ _ q) q, trivial⟩) _ (by exact ⟨.ptr q, .ptr q, .ptr q, .ptr q, .free q q, .free q q, trivial⟩) (by rfl)
        refine .inBlock<|.reg0 q (.o (addI q q)<|.o (mvV q)<|.nil0)<|.keepL [0, 1, 2, 3, 4] [(4, .ptr 0 1 2 0 0), (5, .ptr 1 1 2 0 0), (6, .ptr 2 1 2 0 0), (9, .ptr 3 1 2 0 0), (29, i6 ((List.replicate (Int.toNat a0) (0 : Int)).length : Int)), (30, i6 (IntKind.i64.wrap (x2 + 1)))] [⟨2, [(TFacts.lit a1)], 0, none⟩, ⟨2, [(TFacts.lit a2)], 0, none⟩, ⟨2, [[u6 0, nul]], 0, none⟩, ⟨2, [[u6 t4_3, .own 4 ((setl x1 x2 t16_9).length)]], 0, none⟩, ⟨1, (setl x1 x2 t16_9).map (cInt .u64), 0, none⟩] (by decide) (by decide) ⟨.ptr q, .ptr q, .ptr q, .ptr q, .free q q, .free q q, trivial⟩ ⟨⟨_, q, bcBox (all2_free q)⟩, ⟨_, q, bcBox (all2_free q)⟩, ⟨_, q, bcBox (all2_free q)⟩, ⟨_, q, bcBox (.cons (.free q q)<|.cons (cOwnE q (by simp only [setl, List.length_set]))<|.nil)⟩, ⟨_, q, bcRow (l := (setl x1 x2 t16_9)) sl27 (Nat.le_refl _) q⟩, trivial⟩ ?_
        exact hn1 _ h
      · rw [if_neg c4] at h
        refine .condF q (df c4)<|.exit q<|.keepL [2, 3, 4] [(6, .ptr 0 1 2 0 0), (9, .ptr 1 1 2 0 0)] [⟨2, [[u6 0, nul]], 0, none⟩, ⟨2, [[u6 t4_3, .own 2 x1.length]], 0, none⟩, ⟨1, x1.map (cInt .u64), 0, none⟩] (by decide) (by decide) ⟨.ptr q, .ptr q, trivial⟩ ⟨⟨_, q, bcBox (all2_free q)⟩, ⟨_, q, bcBox (.cons (.free q q)<|.cons (.own q)<|.nil)⟩, ⟨_, q, bcRow (l := x1) sl27 (Nat.le_refl _) q⟩, trivial⟩ ?_
        exact hx1 _ h
  · rw [if_neg c1] at h
    refine .condT q (nt c1)<|.seq<|.reg0 q (.o (bldS (cs := [u6 0, nul]) ze29 pl29 q q)<|.o (mvV q)<|.o (stB (cs0 := [u6 0, nul]) (cs := [u6 0, nul]) (cs1 := [u6 0, nul]) q q sz29 q ⟨Nat.le_of_ble_eq_true q, q⟩ q)<|.o (asV q)<|.nil0) ?_
    replace h := h.symm
    subst h
    refine .k [(6, .cptr [u6 0, .rows (([] : List Int).map (cInt .u64))] 0), (7, i6 t2_4)] ⟨cFixP q q (.cons (.free q q)<|.cons (.nil)<|.nil), .free q q, trivial⟩ ?_
    exact .ret q
def cells_Then.j1 (x52 : Int) : (Int × Int × Int) → (Rnd ((Int × Int × Int × Int)) ((Int × Int × Int)) ((List TCell) × Int)) → Prop := fun (x65, x66, x67) z2 => z2 = .next (x65, x66, x67, (IntKind.i64.wrap (x52 + 1)))
def cells_Then.b2 (a0 : Int) (a1 : List TCell) (a2 : List TCell) (x22 : Int) : (Int × Int × Int × Int) → Rnd ((Int × Int × Int × Int)) ((Int × Int × Int)) ((List TCell) × Int) → Prop := fun (x49, x50, x51, x52) z2 => if x52 < a0 then ((((0 : Int) ≤ x52)) ∧ if (bitOp .and .u64 (shrI .u64 ((rdl a2 x22).From) x52) 1) = 1 then (((InR x52 a1.length)) ∧ ∃ t91_5 : TCell, (cells_both.f (TCell.mk x49 x50 x51) (rdl a1 x52) t91_5) ∧ cells_Then.j1 x52 (t91_5.From, t91_5.Kind, t91_5.K) z2) else (cells_Then.j1 x52 (x49, x50, x51) z2)) else (z2 = .exit (x49, x50, x51))
def cells_Then.b1 (a0 : Int) (a1 : List TCell) (a2 : List TCell) : ((List TCell) × Int) → Rnd (((List TCell) × Int)) ((List TCell)) ((List TCell) × Int) → Prop := fun (x21, x22) z1 => if x22 < (a2.length : Int) then (((InR x22 a2.length)) ∧ ∃ o2 : Fin ((Int × Int × Int)) ((List TCell) × Int), Loop (cells_Then.b2 a0 a1 a2 x22) (0, (rdl a2 x22).Kind, (rdl a2 x22).K, 0) o2 ∧ o2.on (fun (x59, x60, x61) => ((Fits (x21.length + 1) 24)) ∧ z1 = .next ((x21 ++ [(TCell.mk x59 x60 x61)]), (IntKind.i64.wrap (x22 + 1)))) (fun r_ => z1 = .ret r_)) else (z1 = .exit x21)
def cells_Then.f (a0 : Int) (a1 : List TCell) (a2 : List TCell) (r : (List TCell) × Int) : Prop :=
  ∃ t2_3 : Int, (cells_two.f a0 a1 a2 t2_3) ∧ if t2_3 = 0 then (∃ o1 : Fin ((List TCell)) ((List TCell) × Int), Loop (cells_Then.b1 a0 a1 a2) ([], 0) o1 ∧ o1.on (fun x42 => r = (x42, 0)) (fun r_ => r = r_)) else (r = ([], t2_3))
theorem cells_Then.D {a0 a1 a2 r} (h : cells_Then.f a0 a1 a2 r) : D Tryz.prog X (.callH 83 [.val (.int .i64 a0), .rows (a1.map TCell.cells), .rows (a2.map TCell.cells)] [] (.tuple [.rows (r.1.map TCell.cells), .val (.int .i64 r.2)]) []) := by
  unfold cells_Then.f at h
  refine .enter 55 0 fn83 q q q<|.seq<|.reg0 q (.o (asV q)<|.o (asV q)<|.nil0)<|.seq<|.seq ?_
  obtain ⟨t2_3, g2_3, h⟩ := h
  refine .reg0 q (.m q<|.o (mvR q)<|.o (mvR q)<|.c q go124 q q q (cells_two.D g2_3)<|.a q<|.nil0)<|.seq<|.reg0 q (.o (mvV q)<|.o (neI q q)<|.nil0) ?_
  by_cases c1 : t2_3 = 0
  · rw [if_pos c1] at h
    refine .condF q (nf c1)<|.skip<|.seq<|.reg0 q (.o (asV q)<|.nil0)<|.seq<|.seq<|.reg0 q (.o (mvR q)<|.o (lnR (l := a2) sl30 q)<|.o (mvV q)<|.nil0)<|.block<|.room 3<|.keepL [0] [(0, i6 a0), (1, .rows (a1.map TCell.cells)), (9, .own 0 0), (21, .rows (a2.map TCell.cells)), (22, i6 (a2.length : Int)), (23, i6 0)] [⟨3, [].map TCell.cells, 0, none⟩] (by decide) (by decide) ⟨.free q q, .free q q, .nilOwn, .free q q, .free q q, .free q q, trivial⟩ ⟨⟨_, q, (bcRow (l := []) sl30 (Nat.le_refl _) q)⟩, trivial⟩ ?_
    obtain ⟨o1, hL1, h⟩ := h
    refine .loopB (cells_Then.b1 a0 a1 a2) (fun (x21, x22) => listEnv [(0, i6 a0), (1, .rows (a1.map TCell.cells)), (9, .own 0 x21.length), (21, .rows (a2.map TCell.cells)), (22, i6 (a2.length : Int)), (23, i6 x22)]) (fun (x21, x22) => [⟨3, x21.map TCell.cells, 0, none⟩]) (fun x42 => listEnv [(9, .own 0 x42.length)]) (fun x42 => [⟨3, x42.map TCell.cells, 0, none⟩]) hL1 (fun r_ => r = r_) ?_ ?_ ?_
    · rintro x42 rfl
      try dsimp only [Fin.on] at h
      refine .seq<|.reg0 q (.o (mvO q)<|.o (asO q)<|.o (asV q)<|.nil0) ?_
      replace h := h.symm
      subst h
      refine .k [(6, .rows (x42.map TCell.cells)), (7, i6 0)] ⟨cFixO (l := x42) sl30 q q q q, .free q q, trivial⟩ ?_
      exact .ret q
    · rintro r_ rfl
      exact h
    · rintro ⟨x21, x22⟩ z1 h hn1 hx1 hr1
      dsimp only [cells_Then.b1] at h
      refine .seq<|.reg0 q (.o (ltI q q)<|.nil0)<|.seq ?_
      by_cases c24 : x22 < (a2.length : Int)
      · rw [if_pos c24] at h
        refine .condT q (dt c24)<|.skip<|.seq<|.block<|.seq ?_
        obtain ⟨g59_0, h⟩ := h
        refine .room 0<|.reg0 q (.o (ixR (l := a2) (lit := TCell.lit) sl30 q q (fun _ => q) g59_0.1 g59_0.2)<|.o (ldCG q sz74 ag74 q)<|.op 1 q (alP (s := 3) ze74 ⟨q, by decide, q⟩ q)<|.o (stB (cs0 := [u6 0, i6 0, i6 0]) (cs := (TCell.lit (rdl a2 x22))) (cs1 := (TCell.lit (rdl a2 x22))) q q sz74 q ⟨Nat.le_of_ble_eq_true q, q⟩ q)<|.nil0) ?_
        refine .seq<|.room 0<|.reg0 q (.o (faP fa74_1 q)<|.o (ldP q sz72 ag72 q)<|.o (faP fa74_2 q)<|.o (ldP q sz2 ag2 q)<|.o (bldS (cs := [u6 0, i6 ((rdl a2 x22).Kind), i6 ((rdl a2 x22).K)]) ze74 pl74 q q)<|.op 2 q (alP (s := 3) ze74 ⟨q, by decide, q⟩ q)<|.o (stB (cs0 := [u6 0, i6 0, i6 0]) (cs := [u6 0, i6 ((rdl a2 x22).Kind), i6 ((rdl a2 x22).K)]) (cs1 := [u6 0, i6 ((rdl a2 x22).Kind), i6 ((rdl a2 x22).K)]) q q sz74 q ⟨Nat.le_of_ble_eq_true q, q⟩ q)<|.nil0) ?_
        refine .seq<|.seq<|.reg0 q (.o (mvV q)<|.o (mvV q)<|.nil0)<|.block<|.keepL [0, 1, 2] [(0, i6 a0), (1, .rows (a1.map TCell.cells)), (9, .own 0 x21.length), (11, .ptr 1 1 3 0 0), (12, .ptr 2 1 3 0 0), (21, .rows (a2.map TCell.cells)), (22, i6 (a2.length : Int)), (23, i6 x22), (32, i6 a0), (33, i6 0)] [⟨3, x21.map TCell.cells, 0, none⟩, ⟨3, [(TCell.lit (rdl a2 x22))], 0, none⟩, ⟨3, [[u6 0, i6 ((rdl a2 x22).Kind), i6 ((rdl a2 x22).K)]], 0, none⟩] (by decide) (by decide) ⟨.free q q, .free q q, .own q, .ptr q, .ptr q, .free q q, .free q q, .free q q, .free q q, .free q q, trivial⟩ ⟨⟨_, q, bcRow (l := x21) sl30 (Nat.le_refl _) q⟩, ⟨_, q, bcBox (all2_free q)⟩, ⟨_, q, bcBox (all2_free q)⟩, trivial⟩ ?_
        obtain ⟨o2, hL2, h⟩ := h
        refine .loopB (cells_Then.b2 a0 a1 a2 x22) (fun (x49, x50, x51, x52) => listEnv [(0, i6 a0), (1, .rows (a1.map TCell.cells)), (9, .own 0 x21.length), (11, .ptr 1 1 3 0 0), (12, .ptr 2 1 3 0 0), (21, .rows (a2.map TCell.cells)), (22, i6 (a2.length : Int)), (23, i6 x22), (32, i6 a0), (33, i6 x52)]) (fun (x49, x50, x51, x52) => [⟨3, x21.map TCell.cells, 0, none⟩, ⟨3, [(TCell.lit (rdl a2 x22))], 0, none⟩, ⟨3, [[u6 x49, i6 x50, i6 x51]], 0, none⟩]) (fun (x59, x60, x61) => listEnv [(0, i6 a0), (1, .rows (a1.map TCell.cells)), (9, .own 0 x21.length), (12, .ptr 1 1 3 0 0), (21, .rows (a2.map TCell.cells)), (22, i6 (a2.length : Int)), (23, i6 x22)]) (fun (x59, x60, x61) => [⟨3, x21.map TCell.cells, 0, none⟩, ⟨3, [[u6 x59, i6 x60, i6 x61]], 0, none⟩]) hL2 (fun r_ => z1 = .ret r_) ?_ ?_ ?_
        · rintro ⟨x59, x60, x61⟩ rfl
          try dsimp only [Fin.on] at h
          obtain ⟨g92_3, h⟩ := h
          refine .room 0<|.room 0<|.reg0 q (.o (mvO q)<|.o (ldG q sz74 ag74 q)<|.op 2 q (bldL (s := 3) (cs := [u6 x59, i6 x60, i6 x61]) un30 sz74 ze74 ⟨by decide, q, by decide⟩ q q q q)<|.o (ap1 (l := x21) (TCell.mk x59 x60 x61) sl30 q q q (Nat.zero_le _) (elems_own (l := [(TCell.mk x59 x60 x61)]) q q) g92_3)<|.o (asO q)<|.nil0) ?_
          refine .inBlock<|.reg0 q (.o (addI q q)<|.o (mvV q)<|.nil0)<|.keepL [0] [(0, i6 a0), (1, .rows (a1.map TCell.cells)), (9, .own 0 ((x21 ++ [(TCell.mk x59 x60 x61)]).length)), (21, .rows (a2.map TCell.cells)), (22, i6 (a2.length : Int)), (23, i6 (IntKind.i64.wrap (x22 + 1)))] [⟨3, (x21 ++ [(TCell.mk x59 x60 x61)]).map TCell.cells, 0, none⟩] (by decide) (by decide) ⟨.free q q, .free q q, .own q, .free q q, .free q q, .free q q, trivial⟩ ⟨⟨_, q, bcRow (l := (x21 ++ [(TCell.mk x59 x60 x61)])) sl30 (Nat.le_refl _) q⟩, trivial⟩ ?_
          exact hn1 _ h
        · rintro r_ rfl
          exact h
        · rintro ⟨x49, x50, x51, x52⟩ z2 h hn2 hx2 hr2
          dsimp only [cells_Then.b2] at h
          refine .seq<|.reg0 q (.o (ltI q q)<|.nil0)<|.seq ?_
          by_cases c35 : x52 < a0
          · rw [if_pos c35] at h
            refine .condT q (dt c35)<|.skip<|.seq<|.block<|.seq<|.reg0 q (.o (mvV q)<|.o (asV q)<|.nil0)<|.seq ?_
            obtain ⟨g88_3, h⟩ := h
            refine .reg0 q (.o (faP fa74_0 q)<|.o (ldP q sz26 ag26 q)<|.m q<|.o (shr_ q q g88_3)<|.o (andI q q)<|.o (eqI q q)<|.nil0) ?_
            refine .consJ (fun s_ => cells_Then.j1 x52 s_ z2) (fun (x65, x66, x67) => listEnv [(0, i6 a0), (1, .rows (a1.map TCell.cells)), (9, .own 0 x21.length), (11, .ptr 1 1 3 0 0), (12, .ptr 2 1 3 0 0), (21, .rows (a2.map TCell.cells)), (22, i6 (a2.length : Int)), (23, i6 x22), (32, i6 a0), (33, i6 x52)]) (fun (x65, x66, x67) => [⟨3, x21.map TCell.cells, 0, none⟩, ⟨3, [(TCell.lit (rdl a2 x22))], 0, none⟩, ⟨3, [[u6 x65, i6 x66, i6 x67]], 0, none⟩]) ?_ fun hJ1 => ?_
            · rintro ⟨x65, x66, x67⟩ h
              unfold cells_Then.j1 at h
              try dsimp only at h
              refine .inBlock<|.reg0 q (.o (addI q q)<|.o (mvV q)<|.nil0)<|.keepL [0, 1, 2] [(0, i6 a0), (1, .rows (a1.map TCell.cells)), (9, .own 0 x21.length), (11, .ptr 1 1 3 0 0), (12, .ptr 2 1 3 0 0), (21, .rows (a2.map TCell.cells)), (22, i6 (a2.length : Int)), (23, i6 x22), (32, i6 a0), (33, i6 (IntKind.i64.wrap (x52 + 1)))] [⟨3, x21.map TCell.cells, 0, none⟩, ⟨3, [(TCell.lit (rdl a2 x22))], 0, none⟩, ⟨3, [[u6 x65, i6 x66, i6 x67]], 0, none⟩] (by decide) (by decide) ⟨.free q q, .free q q, .own q, .ptr q, .ptr q, .free q q, .free q q, .free q q, .free q q, .free q q, trivial⟩ ⟨⟨_, q, bcRow (l := x21) sl30 (Nat.le_refl _) q⟩, ⟨_, q, bcBox (all2_free q)⟩, ⟨_, q, bcBox (all2_free q)⟩, trivial⟩ ?_
              exact hn2 _ h
            · by_cases c39 : (bitOp .and .u64 (shrI .u64 ((rdl a2 x22).From) x52) 1) = 1
              · rw [if_pos c39] at h
                refine .condT q (bt c39) ?_
                obtain ⟨g91_3, h⟩ := h
                obtain ⟨t91_5, g91_5, h⟩ := h
                refine .reg1 (e1 := listEnv [(0, i6 a0), (1, .rows (a1.map TCell.cells)), (9, .own 0 x21.length), (11, .ptr 1 1 3 0 0), (12, .ptr 2 1 3 0 0), (21, .rows (a2.map TCell.cells)), (22, i6 (a2.length : Int)), (23, i6 x22), (32, i6 a0), (33, i6 x52)]) (H1 := [⟨3, x21.map TCell.cells, 0, none⟩, ⟨3, [(TCell.lit (rdl a2 x22))], 0, none⟩, ⟨3, [(TCell.lit t91_5)], 0, none⟩]) q ?_ ?_
                · exact .drawM [(5, 47, .agg (TCell.lit t91_5)), (4, 46, .agg (TCell.lit (rdl a1 x52))), (3, 45, .cptr (TCell.lit (rdl a1 x52)) 0), (2, 44, i6 x52), (1, 43, .rows (a1.map TCell.cells)), (0, 42, .agg [u6 x49, i6 x50, i6 x51])] [(6, 2, ⟨3, [(TCell.lit t91_5)], 0, none⟩)] [[], [], [], [1, 2], [3, 1, 2], [0, 4, 3, 1, 2], [5, 0, 4, 3, 1, 2]] (by rfl) (by rfl) (by rfl) (by exact ⟨oP (fun _ => ldG q sz74 ag74 q) q, oP (fun _ => mvR q) q, oP (fun _ => mvV q) q, oP (fun _ => ixR (l := a1) (lit := TCell.lit) sl30 q q (fun _ => q) g91_3.1 g91_3.2) q, oP (fun _ => ldCG q sz74 ag74 q) q, fun S hS hD hn => .oneI hS hD hn q q (callee_of q go125 q) (.pure q q (cells_both.D g91_5)) q q q, fun S hS hD hn => .one0 0 q q (stB (cs0 := [u6 x49, i6 x50, i6 x51]) (cs := (TCell.lit t91_5)) (cs1 := (TCell.lit t91_5)) q q sz74 q ⟨Nat.le_of_ble_eq_true q, q⟩ q) (drawE_other _ _ _ _ q) q, trivial⟩) _ (by exact ⟨.free q q, .free q q, .own q, .ptr q, .ptr q, .free q q, .free q q, .free q q, .free q q, .free q q, trivial⟩) (by rfl)
                refine .keepL [0, 1, 2] [(0, i6 a0), (1, .rows (a1.map TCell.cells)), (9, .own 0 x21.length), (11, .ptr 1 1 3 0 0), (12, .ptr 2 1 3 0 0), (21, .rows (a2.map TCell.cells)), (22, i6 (a2.length : Int)), (23, i6 x22), (32, i6 a0), (33, i6 x52)] [⟨3, x21.map TCell.cells, 0, none⟩, ⟨3, [(TCell.lit (rdl a2 x22))], 0, none⟩, ⟨3, [(TCell.lit t91_5)], 0, none⟩] (by decide) (by decide) ⟨.free q q, .free q q, .own q, .ptr q, .ptr q, .free q q, .free q q, .free q q, .free q q, .free q q, trivial⟩ ⟨⟨_, q, bcRow (l := x21) sl30 (Nat.le_refl _) q⟩, ⟨_, q, bcBox (all2_free q)⟩, ⟨_, q, bcBox (all2_free q)⟩, trivial⟩ ?_
                exact hJ1 _ h
              · rw [if_neg c39] at h
                refine .condF q (bn c39)<|.skip<|.keepL [0, 1, 2] [(0, i6 a0), (1, .rows (a1.map TCell.cells)), (9, .own 0 x21.length), (11, .ptr 1 1 3 0 0), (12, .ptr 2 1 3 0 0), (21, .rows (a2.map TCell.cells)), (22, i6 (a2.length : Int)), (23, i6 x22), (32, i6 a0), (33, i6 x52)] [⟨3, x21.map TCell.cells, 0, none⟩, ⟨3, [(TCell.lit (rdl a2 x22))], 0, none⟩, ⟨3, [[u6 x49, i6 x50, i6 x51]], 0, none⟩] (by decide) (by decide) ⟨.free q q, .free q q, .own q, .ptr q, .ptr q, .free q q, .free q q, .free q q, .free q q, .free q q, trivial⟩ ⟨⟨_, q, bcRow (l := x21) sl30 (Nat.le_refl _) q⟩, ⟨_, q, bcBox (all2_free q)⟩, ⟨_, q, bcBox (all2_free q)⟩, trivial⟩ ?_
                exact hJ1 _ h
          · rw [if_neg c35] at h
            refine .condF q (df c35)<|.exit q<|.keepL [0, 2] [(0, i6 a0), (1, .rows (a1.map TCell.cells)), (9, .own 0 x21.length), (12, .ptr 1 1 3 0 0), (21, .rows (a2.map TCell.cells)), (22, i6 (a2.length : Int)), (23, i6 x22)] [⟨3, x21.map TCell.cells, 0, none⟩, ⟨3, [[u6 x49, i6 x50, i6 x51]], 0, none⟩] (by decide) (by decide) ⟨.free q q, .free q q, .own q, .ptr q, .free q q, .free q q, .free q q, trivial⟩ ⟨⟨_, q, bcRow (l := x21) sl30 (Nat.le_refl _) q⟩, ⟨_, q, bcBox (all2_free q)⟩, trivial⟩ ?_
            exact hx2 _ h
      · rw [if_neg c24] at h
        refine .condF q (df c24)<|.exit q<|.keepL [0] [(9, .own 0 x21.length)] [⟨3, x21.map TCell.cells, 0, none⟩] (by decide) (by decide) ⟨.own q, trivial⟩ ⟨⟨_, q, bcRow (l := x21) sl30 (Nat.le_refl _) q⟩, trivial⟩ ?_
        exact hx1 _ h
  · rw [if_neg c1] at h
    refine .condT q (nt c1)<|.seq<|.reg0 q (.o (mvV q)<|.o (asV q)<|.o (asV q)<|.nil0) ?_
    replace h := h.symm
    subst h
    refine .k [(6, .rows (([] : List TCell).map TCell.cells)), (7, i6 t2_3)] ⟨.nil, .free q q, trivial⟩ ?_
    exact .ret q
def weight_then.step (self49 : TSpace → TWeight → TWeight → TWeight → Prop) (a0 : TSpace) (a1 : TWeight) (a2 : TWeight) (r : TWeight) : Prop :=
  if (a1.Zero || a2.Zero) = true then (r = (TWeight.mk true 0 (TFacts.mk 0 []) [] [])) else (if a0.Tag = 2 then (∃ t7_7 : Int × Int, (cost_Sum.f a0.Dim [a1.Cost, a2.Cost] t7_7) ∧ r = (TWeight.mk false t7_7.1 (TFacts.mk 0 []) [] [])) else (if a0.Tag = 3 then (∃ t10_6 : TFacts × Int, (facts_Extend.f a0.Dim a1.Facts a2.Facts t10_6) ∧ r = (TWeight.mk false 0 t10_6.1 [] [])) else (if a0.Tag = 4 then (∃ t13_6 : (List TCell) × Int, (cells_Then.f a0.Dim a1.Cells a2.Cells t13_6) ∧ r = (TWeight.mk false 0 (TFacts.mk 0 []) t13_6.1 [])) else (if a0.Tag = 5 then (((InR 0 a0.Parts.length)) ∧ ((InR 0 a1.Parts.length)) ∧ ((InR 0 a2.Parts.length)) ∧ ∃ t16_12 : TWeight, (self49 (rdl a0.Parts 0) (rdl a1.Parts 0) (rdl a2.Parts 0) t16_12) ∧ ((InR 1 a0.Parts.length)) ∧ ((InR 1 a1.Parts.length)) ∧ ((InR 1 a2.Parts.length)) ∧ ∃ t16_25 : TWeight, (self49 (rdl a0.Parts 1) (rdl a1.Parts 1) (rdl a2.Parts 1) t16_25) ∧ r = (TWeight.mk false 0 (TFacts.mk 0 []) [] [t16_12, t16_25])) else (r = (TWeight.mk false 0 (TFacts.mk 0 []) [] []))))))
theorem weight_then.stepD {self49 : TSpace → TWeight → TWeight → TWeight → Prop} {a0 : TSpace} {a1 : TWeight} {a2 : TWeight} (hs49 : ∀ z0_ z1_ z2_ r_, self49 z0_ z1_ z2_ r_ → D Tryz.prog X (.callH 49 [.agg (TSpace.lit z0_), .agg (TWeight.lit z1_), .agg (TWeight.lit z2_)] [] (.agg (TWeight.lit r_)) [])) {r : TWeight} (h : weight_then.step self49 a0 a1 a2 r) : D Tryz.prog X (.callH 49 [.agg (TSpace.lit a0), .agg (TWeight.lit a1), .agg (TWeight.lit a2)] [] (.agg (TWeight.lit r)) []) := by
  unfold weight_then.step at h
  refine .enter 88 0 fn49 q q q<|.seq<|.room 0<|.room 0<|.room 0<|.room 0<|.reg0 q (.o (bxP (s := 3) (cs := (TSpace.lit a0)) q ⟨q, by decide, q⟩ q)<|.op 1 q (bxP (s := 6) (cs := (TWeight.lit a1)) q ⟨q, by decide, q⟩ q)<|.op 2 q (bxP (s := 6) (cs := (TWeight.lit a2)) q ⟨q, by decide, q⟩ q)<|.op 3 q (alP (s := 6) ze33 ⟨q, by decide, q⟩ q)<|.nil0) ?_
  refine .seq<|.seq ?_
  refine .reg0 (e1 := listEnv [(3, .ptr 0 1 3 0 0), (4, .ptr 1 1 6 0 0), (5, .ptr 2 1 6 0 0), (6, .ptr 3 1 6 0 0), (13, bo (a1.Zero || a2.Zero))]) (H1 := [⟨3, [(TSpace.lit a0)], 0, none⟩, ⟨6, [(TWeight.lit a1)], 0, none⟩, ⟨6, [(TWeight.lit a2)], 0, none⟩, ⟨6, [GG_c0], 0, none⟩]) q ?_ ?_
  · refine .o (faP fa33_0 q)<|.o (ldP q sz4 ag4 q)<|.m q<|?_
    by_cases c1 : a1.Zero = true
    · exact (.n q c1<|.n q c1<|.o (pkTV q c1 q)<|.nilL _ ⟨.ptr q, .ptr q, .ptr q, .ptr q, cB q (mOrT c1), trivial⟩)
    · exact (.g q (nb c1) (faP fa33_0 q)<|.g q (nb c1) (ldP q sz4 ag4 q)<|.o (pkFV q (nb c1) q)<|.nilL _ ⟨.ptr q, .ptr q, .ptr q, .ptr q, cB q (mOrF (nb c1) q), trivial⟩)
  by_cases c2 : (a1.Zero || a2.Zero) = true
  · rw [if_pos c2] at h
    refine .condT q c2<|.seq<|.reg0 q (.o (bldS (cs := GG_c1) ze33 pl33 q q)<|.o (stB (cs0 := GG_c0) (cs := GG_c1) (cs1 := GG_c1) q q sz33 q ⟨Nat.le_of_ble_eq_true q, q⟩ q)<|.nil0) ?_
    replace h := h.symm
    subst h
    refine .k [(6, .cptr [bo true, i6 0, u6 0, .rows (([] : List Int).map (cInt .u64)), .rows (([] : List TCell).map TCell.cells), .rows (([] : List TWeight).map TWeight.cells)] 0)] ⟨cFixP q q (.cons (.free q q)<|.cons (.free q q)<|.cons (.free q q)<|.cons (.nil)<|.cons (.nil)<|.cons (.nil)<|.nil), trivial⟩ ?_
    exact .ret q
  · rw [if_neg c2] at h
    refine .condF q (nb c2)<|.skip<|.seq<|.room 0<|.reg0 q (.op 4 q (alP (s := 6) ze33 ⟨q, by decide, q⟩ q)<|.nil0)<|.seq<|.seq<|.reg0 q (.o (faP fa25_0 q)<|.o (ldP q sz22 ag22 q)<|.nil0)<|.block<|.seq<|.reg0 q (.o (eqI q q)<|.o (asV q)<|.nil0) ?_
    by_cases c3 : a0.Tag = 2
    · rw [if_pos c3] at h
      refine .condT q (bt c3) ?_
      obtain ⟨t7_7, g7_7, h⟩ := h
      refine .room 0<|.reg0 q (.o (faP fa25_1 q)<|.o (ldP q sz3 ag3 q)<|.o (faP fa33_1 q)<|.o (ldP q sz3 ag3 q)<|.o (faP fa33_1 q)<|.o (ldP q sz3 ag3 q)<|.op 5 q (bldL (s := 1) (cs := [i6 a1.Cost, i6 a2.Cost]) un152 sz3 ze3 ⟨by decide, q, by decide⟩ q q q q)<|.callI q (callee_of q go81 q) (.lendC (args' := [i6 a0.Dim, .rows ([a1.Cost, a2.Cost].map (cInt .i64))])  [5] false (.cons (.free q q)<|.cons (cFixO (l := [a1.Cost, a2.Cost]) sl152 q q q q)<|.nil) (by decide) q q q q (cost_Sum.D g7_7))<|.o (mvT q)<|.o (exT q q)<|.o (exT q q)<|.o (faP fa33_1 q)<|.o (stB (cs0 := GG_c0) (cs := [i6 t7_7.1]) (cs1 := [bo false, i6 t7_7.1, u6 0, nul, nul, nul]) q q sz3 q ⟨Nat.le_of_ble_eq_true q, q⟩ q)<|.nil0) ?_
      refine .inBlock<|.seq<|.reg0 q (.o (ldG q sz33 ag33 q)<|.o (stB (cs0 := GG_c0) (cs := [bo false, i6 t7_7.1, u6 0, nul, nul, nul]) (cs1 := [bo false, i6 t7_7.1, u6 0, nul, nul, nul]) q q sz33 q ⟨Nat.le_of_ble_eq_true q, q⟩ q)<|.nil0) ?_
      replace h := h.symm
      subst h
      refine .k [(6, .cptr [bo false, i6 t7_7.1, u6 0, .rows (([] : List Int).map (cInt .u64)), .rows (([] : List TCell).map TCell.cells), .rows (([] : List TWeight).map TWeight.cells)] 0)] ⟨cFixP q q (.cons (.free q q)<|.cons (.free q q)<|.cons (.free q q)<|.cons (.nil)<|.cons (.nil)<|.cons (.nil)<|.nil), trivial⟩ ?_
      exact .ret q
    · rw [if_neg c3] at h
      refine .condF q (bn c3)<|.seq<|.reg0 q (.o (eqI q q)<|.o (asV q)<|.nil0) ?_
      by_cases c4 : a0.Tag = 3
      · rw [if_pos c4] at h
        refine .condT q (bt c4) ?_
        obtain ⟨t10_6, g10_6, h⟩ := h
        refine .reg0 q (.o (faP fa25_1 q)<|.o (ldP q sz3 ag3 q)<|.o (faP fa33_2 q)<|.o (ldG q sz29 ag29 q)<|.o (faP fa33_2 q)<|.o (ldG q sz29 ag29 q)<|.c q go82 q q q (facts_Extend.D g10_6)<|.o (mvT q)<|.o (exT q q)<|.o (exT q q)<|.o (faP fa33_2 q)<|.o (stB (cs0 := GG_c0) (cs := (TFacts.lit t10_6.1)) (cs1 := [bo false, i6 0, u6 t10_6.1.Gen, .rows (t10_6.1.Rows.map (cInt .u64)), nul, nul]) q q sz29 q ⟨Nat.le_of_ble_eq_true q, q⟩ q)<|.nil0) ?_
        refine .inBlock<|.seq<|.reg0 q (.o (ldG q sz33 ag33 q)<|.o (stB (cs0 := GG_c0) (cs := [bo false, i6 0, u6 t10_6.1.Gen, .rows (t10_6.1.Rows.map (cInt .u64)), nul, nul]) (cs1 := [bo false, i6 0, u6 t10_6.1.Gen, .rows (t10_6.1.Rows.map (cInt .u64)), nul, nul]) q q sz33 q ⟨Nat.le_of_ble_eq_true q, q⟩ q)<|.nil0) ?_
        replace h := h.symm
        subst h
        refine .k [(6, .cptr [bo false, i6 0, u6 t10_6.1.Gen, .rows (t10_6.1.Rows.map (cInt .u64)), .rows (([] : List TCell).map TCell.cells), .rows (([] : List TWeight).map TWeight.cells)] 0)] ⟨cFixP q q (.cons (.free q q)<|.cons (.free q q)<|.cons (.free q q)<|.cons (.free q q)<|.cons (.nil)<|.cons (.nil)<|.nil), trivial⟩ ?_
        exact .ret q
      · rw [if_neg c4] at h
        refine .condF q (bn c4)<|.seq<|.reg0 q (.o (eqI q q)<|.o (asV q)<|.nil0) ?_
        by_cases c5 : a0.Tag = 4
        · rw [if_pos c5] at h
          refine .condT q (bt c5) ?_
          obtain ⟨t13_6, g13_6, h⟩ := h
          refine .reg0 q (.o (faP fa25_1 q)<|.o (ldP q sz3 ag3 q)<|.o (faP fa33_3 q)<|.o (ldP q sz30 ag30 q)<|.o (faP fa33_3 q)<|.o (ldP q sz30 ag30 q)<|.c q go83 q q q (cells_Then.D g13_6)<|.o (mvT q)<|.o (exT q q)<|.o (exT q q)<|.o (faP fa33_3 q)<|.o (stB (cs0 := GG_c0) (cs := [.rows (t13_6.1.map TCell.cells)]) (cs1 := [bo false, i6 0, u6 0, nul, .rows (t13_6.1.map TCell.cells), nul]) q q sz30 q ⟨Nat.le_of_ble_eq_true q, q⟩ q)<|.nil0) ?_
          refine .inBlock<|.seq<|.reg0 q (.o (ldG q sz33 ag33 q)<|.o (stB (cs0 := GG_c0) (cs := [bo false, i6 0, u6 0, nul, .rows (t13_6.1.map TCell.cells), nul]) (cs1 := [bo false, i6 0, u6 0, nul, .rows (t13_6.1.map TCell.cells), nul]) q q sz33 q ⟨Nat.le_of_ble_eq_true q, q⟩ q)<|.nil0) ?_
          replace h := h.symm
          subst h
          refine .k [(6, .cptr [bo false, i6 0, u6 0, .rows (([] : List Int).map (cInt .u64)), .rows (t13_6.1.map TCell.cells), .rows (([] : List TWeight).map TWeight.cells)] 0)] ⟨cFixP q q (.cons (.free q q)<|.cons (.free q q)<|.cons (.free q q)<|.cons (.nil)<|.cons (.free q q)<|.cons (.nil)<|.nil), trivial⟩ ?_
          exact .ret q
        · rw [if_neg c5] at h
          refine .condF q (bn c5)<|.seq<|.reg0 q (.o (eqI q q)<|.o (asV q)<|.nil0) ?_
          by_cases c6 : a0.Tag = 5
          · rw [if_pos c6] at h
            refine .condT q (bt c6) ?_
            obtain ⟨g16_2, h⟩ := h
            obtain ⟨g16_6, h⟩ := h
            obtain ⟨g16_10, h⟩ := h
            obtain ⟨t16_12, g16_12, h⟩ := h
            obtain ⟨g16_15, h⟩ := h
            obtain ⟨g16_19, h⟩ := h
            obtain ⟨g16_23, h⟩ := h
            obtain ⟨t16_25, g16_25, h⟩ := h
            refine .room 0 ?_
            refine .reg1 (e1 := listEnv [(6, .ptr 3 1 6 0 0), (7, .ptr 4 1 6 0 0)]) (H1 := [⟨3, [(TSpace.lit a0)], 0, none⟩, ⟨6, [(TWeight.lit a1)], 0, none⟩, ⟨6, [(TWeight.lit a2)], 0, none⟩, ⟨6, [GG_c0], 0, none⟩, ⟨6, [[bo false, i6 0, u6 0, nul, nul, .own 5 ([t16_12, t16_25].length)]], 0, none⟩, ⟨6, [t16_12, t16_25].map TWeight.cells, 0, none⟩]) q ?_ ?_
            · exact .drawM [(27, 86, .ptr 4 1 6 0 5), (26, 85, .own 5 ([t16_12, t16_25].length)), (25, 84, .agg (TWeight.lit t16_25)), (24, 83, .agg (TWeight.lit (rdl a2.Parts 1))), (23, 82, .cptr (TWeight.lit (rdl a2.Parts 1)) 0), (22, 81, .rows (a2.Parts.map TWeight.cells)), (21, 80, .ptr 2 1 6 0 5), (20, 79, .agg (TWeight.lit (rdl a1.Parts 1))), (19, 78, .cptr (TWeight.lit (rdl a1.Parts 1)) 0), (18, 77, .rows (a1.Parts.map TWeight.cells)), (17, 76, .ptr 1 1 6 0 5), (16, 75, .agg (TSpace.lit (rdl a0.Parts 1))), (15, 74, .cptr (TSpace.lit (rdl a0.Parts 1)) 0), (14, 73, .rows (a0.Parts.map TSpace.cells)), (13, 72, .ptr 0 1 3 0 2), (12, 71, .agg (TWeight.lit t16_12)), (11, 70, .agg (TWeight.lit (rdl a2.Parts 0))), (10, 69, .cptr (TWeight.lit (rdl a2.Parts 0)) 0), (9, 68, .rows (a2.Parts.map TWeight.cells)), (8, 67, .ptr 2 1 6 0 5), (7, 66, .agg (TWeight.lit (rdl a1.Parts 0))), (6, 65, .cptr (TWeight.lit (rdl a1.Parts 0)) 0), (5, 64, .rows (a1.Parts.map TWeight.cells)), (4, 63, .ptr 1 1 6 0 5), (3, 62, .agg (TSpace.lit (rdl a0.Parts 0))), (2, 61, .cptr (TSpace.lit (rdl a0.Parts 0)) 0), (1, 60, .rows (a0.Parts.map TSpace.cells)), (0, 59, .ptr 0 1 3 0 2)] [(28, 4, ⟨6, [[bo false, i6 0, u6 0, nul, nul, .own 5 ([t16_12, t16_25].length)]], 0, none⟩), (26, 5, ⟨6, [t16_12, t16_25].map TWeight.cells, 0, none⟩)] [[], [0], [1, 0], [2, 1, 0], [], [4], [5, 4], [6, 5, 4], [], [8], [9, 8], [10, 9, 8], [3, 2, 1, 0, 7, 6, 5, 4, 11, 10, 9, 8], [], [13], [14, 13], [15, 14, 13], [], [17], [18, 17], [19, 18, 17], [], [21], [22, 21], [23, 22, 21], [16, 15, 14, 13, 20, 19, 18, 17, 24, 23, 22, 21, 12, 3, 2, 1, 0, 7, 6, 5, 4, 11, 10, 9, 8], [12, 3, 2, 1, 0, 7, 6, 5, 4, 11, 10, 9, 8, 25, 16, 15, 14, 13, 20, 19, 18, 17, 24, 23, 22, 21], [0, 1, 2, 3, 4, 5, 6, 7, 8, 9, 10, 11, 12, 13, 14, 15, 16, 17, 18, 19, 20, 21, 22, 23, 24, 25, 26], [27, 0, 1, 2, 3, 4, 5, 6, 7, 8, 9, 10, 11, 12, 13, 14, 15, 16, 17, 18, 19, 20, 21, 22, 23, 24, 25, 26]] (by rfl) (by rfl) (by rfl) (by exact ⟨oP (fun _ => faP fa25_2 q) q, oP (fun _ => ldP q sz23 ag23 q) q, oP (fun _ => ixR (l := a0.Parts) (lit := TSpace.lit) sl23 q q TSpace.cells_lit g16_2.1 g16_2.2) q, oP (fun _ => ldCG q sz25 ag25 q) q, oP (fun _ => faP fa33_4 q) q, oP (fun _ => ldP q sz31 ag31 q) q, oP (fun _ => ixR (l := a1.Parts) (lit := TWeight.lit) sl31 q q TWeight.cells_lit g16_6.1 g16_6.2) q, oP (fun _ => ldCG q sz33 ag33 q) q, oP (fun _ => faP fa33_4 q) q, oP (fun _ => ldP q sz31 ag31 q) q, oP (fun _ => ixR (l := a2.Parts) (lit := TWeight.lit) sl31 q q TWeight.cells_lit g16_10.1 g16_10.2) q, oP (fun _ => ldCG q sz33 ag33 q) q, fun S hS hD hn => .oneI hS hD hn q q (callee_of q go49 q) (.pure q q (hs49 _ _ _ _ g16_12)) q q q, oP (fun _ => faP fa25_2 q) q, oP (fun _ => ldP q sz23 ag23 q) q, oP (fun _ => ixR (l := a0.Parts) (lit := TSpace.lit) sl23 q q TSpace.cells_lit g16_15.1 g16_15.2) q, oP (fun _ => ldCG q sz25 ag25 q) q, oP (fun _ => faP fa33_4 q) q, oP (fun _ => ldP q sz31 ag31 q) q, oP (fun _ => ixR (l := a1.Parts) (lit := TWeight.lit) sl31 q q TWeight.cells_lit g16_19.1 g16_19.2) q, oP (fun _ => ldCG q sz33 ag33 q) q, oP (fun _ => faP fa33_4 q) q, oP (fun _ => ldP q sz31 ag31 q) q, oP (fun _ => ixR (l := a2.Parts) (lit := TWeight.lit) sl31 q q TWeight.cells_lit g16_23.1 g16_23.2) q, oP (fun _ => ldCG q sz33 ag33 q) q, fun S hS hD hn => .oneI hS hD hn q q (callee_of q go49 q) (.pure q q (hs49 _ _ _ _ g16_25)) q q q, oW 5 (fun _ => bldT (s := 6) (cs := [bo t16_12.Zero, i6 t16_12.Cost, u6 t16_12.Facts.Gen, .rows (t16_12.Facts.Rows.map (cInt .u64)), .rows (t16_12.Cells.map TCell.cells), .rows (t16_12.Parts.map TWeight.cells), bo t16_25.Zero, i6 t16_25.Cost, u6 t16_25.Facts.Gen, .rows (t16_25.Facts.Rows.map (cInt .u64)), .rows (t16_25.Cells.map TCell.cells), .rows (t16_25.Parts.map TWeight.cells)]) (cf := TWeight.cells) [t16_12, t16_25] un31 sz33 ze33 ⟨by decide, q, by decide⟩ q q q (by simp only [List.map, TWeight.cells_lit]; rfl) q) q fun _ => q, oP (fun _ => faP fa33_4 q) q, fun S hS hD hn => .one0 0 q q (stB (cs0 := GG_c0) (cs := [.own 5 ([t16_12, t16_25].length)]) (cs1 := [bo false, i6 0, u6 0, nul, nul, .own 5 ([t16_12, t16_25].length)]) q q sz31 q ⟨Nat.le_of_ble_eq_true q, q⟩ q) (drawE_other _ _ _ _ q) q, trivial⟩) _ (by exact ⟨.ptr q, .ptr q, trivial⟩) (by rfl)
            refine .inBlock<|.seq<|.reg0 q (.o (ldG q sz33 ag33 q)<|.o (stB (cs0 := GG_c0) (cs := [bo false, i6 0, u6 0, nul, nul, .own 5 ([t16_12, t16_25].length)]) (cs1 := [bo false, i6 0, u6 0, nul, nul, .own 5 ([t16_12, t16_25].length)]) q q sz33 q ⟨Nat.le_of_ble_eq_true q, q⟩ q)<|.nil0) ?_
            replace h := h.symm
            subst h
            refine .k [(6, .cptr [bo false, i6 0, u6 0, .rows (([] : List Int).map (cInt .u64)), .rows (([] : List TCell).map TCell.cells), .rows ([t16_12, t16_25].map TWeight.cells)] 0)] ⟨cFixP q q (.cons (.free q q)<|.cons (.free q q)<|.cons (.free q q)<|.cons (.nil)<|.cons (.nil)<|.cons (cFixO (l := [t16_12, t16_25]) sl31 q q q q)<|.nil), trivial⟩ ?_
            exact .ret q
          · rw [if_neg c6] at h
            refine .condF q (bn c6)<|.skip<|.inBlock<|.seq<|.reg0 q (.o (ldG q sz33 ag33 q)<|.o (stB (cs0 := GG_c0) (cs := GG_c0) (cs1 := GG_c0) q q sz33 q ⟨Nat.le_of_ble_eq_true q, q⟩ q)<|.nil0) ?_
            replace h := h.symm
            subst h
            refine .k [(6, .cptr GG_c2 0)] ⟨cFixP q q (.cons (.free q q)<|.cons (.free q q)<|.cons (.free q q)<|.cons (.nil)<|.cons (.nil)<|.cons (.nil)<|.nil), trivial⟩ ?_
            exact .ret q
def weight_then.fN : Nat → TSpace → TWeight → TWeight → TWeight → Prop
  | 0 => fun _ _ _ _ => False
  | n + 1 => weight_then.step (weight_then.fN n)
theorem weight_then.ND : ∀ (n : Nat) {a0 : TSpace} {a1 : TWeight} {a2 : TWeight} {r : TWeight} (h : weight_then.fN n a0 a1 a2 r), D Tryz.prog X (.callH 49 [.agg (TSpace.lit a0), .agg (TWeight.lit a1), .agg (TWeight.lit a2)] [] (.agg (TWeight.lit r)) [])
  | 0, _, _, _, _, h => h.elim
  | n + 1, _, _, _, _, h => weight_then.stepD (fun _ _ _ _ h => weight_then.ND n h) h
def weight_then.f (a0 : TSpace) (a1 : TWeight) (a2 : TWeight) (r : TWeight) : Prop := ∃ n, weight_then.fN n a0 a1 a2 r
theorem weight_then.D {a0 a1 a2 r} (h : weight_then.f a0 a1 a2 r) : D Tryz.prog X (.callH 49 [.agg (TSpace.lit a0), .agg (TWeight.lit a1), .agg (TWeight.lit a2)] [] (.agg (TWeight.lit r)) []) := by obtain ⟨n, h⟩ := h; exact weight_then.ND n h
def weight_Extend.b1 (a0 : TSpace) (a1 : List TWeight) : (Bool × Int × Int × (List Int) × (List TCell) × (List TWeight) × Int) → Rnd ((Bool × Int × Int × (List Int) × (List TCell) × (List TWeight) × Int)) ((Bool × Int × Int × (List Int) × (List TCell) × (List TWeight))) (TWeight × Int) → Prop := fun (x1, x2, x3, x4, x5, x6, x7) z1 => if x7 < (a1.length : Int) then (((InR x7 a1.length)) ∧ ∃ t16_3 : TWeight, (weight_then.f a0 (TWeight.mk x1 x2 (TFacts.mk x3 x4) x5 x6) (rdl a1 x7) t16_3) ∧ z1 = .next (t16_3.Zero, t16_3.Cost, t16_3.Facts.Gen, t16_3.Facts.Rows, t16_3.Cells, t16_3.Parts, (IntKind.i64.wrap (x7 + 1)))) else (z1 = .exit (x1, x2, x3, x4, x5, x6))
def weight_Extend.f (a0 : TSpace) (a1 : List TWeight) (r : TWeight × Int) : Prop :=
  ∃ t2_2 : Int, (weight_checked.f a0 a1 t2_2) ∧ if t2_2 = 0 then (∃ t4_1 : TWeight, (weight_one.f a0 t4_1) ∧ ∃ o1 : Fin ((Bool × Int × Int × (List Int) × (List TCell) × (List TWeight))) (TWeight × Int), Loop (weight_Extend.b1 a0 a1) (t4_1.Zero, t4_1.Cost, t4_1.Facts.Gen, t4_1.Facts.Rows, t4_1.Cells, t4_1.Parts, 0) o1 ∧ o1.on (fun (x8, x9, x10, x11, x12, x13) => ∃ t18_1 : TWeight, (weight_copied.f (TWeight.mk x8 x9 (TFacts.mk x10 x11) x12 x13) t18_1) ∧ r = (t18_1, 0)) (fun r_ => r = r_)) else (r = ((TWeight.mk false 0 (TFacts.mk 0 []) [] []), t2_2))
theorem weight_Extend.D {a0 a1 r} (h : weight_Extend.f a0 a1 r) : D Tryz.prog X (.callH 21 [.agg (TSpace.lit a0), .rows (a1.map TWeight.cells)] [] (.tuple [.agg (TWeight.lit r.1), .val (.int .i64 r.2)]) []) := by
  unfold weight_Extend.f at h
  refine .enter 32 0 fn21 q q q<|.seq<|.room 0<|.room 0<|.reg0 q (.o (bxP (s := 3) (cs := (TSpace.lit a0)) q ⟨q, by decide, q⟩ q)<|.op 1 q (alP (s := 6) ze33 ⟨q, by decide, q⟩ q)<|.o (asV q)<|.nil0)<|.seq<|.seq ?_
  obtain ⟨t2_2, g2_2, h⟩ := h
  refine .reg0 q (.o (ldG q sz25 ag25 q)<|.o (mvR q)<|.c q go43 q q q (weight_checked.D g2_2)<|.a q<|.nil0)<|.seq<|.reg0 q (.o (mvV q)<|.o (neI q q)<|.nil0) ?_
  by_cases c1 : t2_2 = 0
  · rw [if_pos c1] at h
    refine .condF q (nf c1)<|.skip<|.seq ?_
    obtain ⟨t4_1, g4_1, h⟩ := h
    refine .room 0<|.reg0 q (.o (ldG q sz25 ag25 q)<|.callI q (callee_of q go40 q) (.pure q q (weight_one.D g4_1))<|.op 2 q (alP (s := 6) ze33 ⟨q, by decide, q⟩ q)<|.o (stB (cs0 := GG_c0) (cs := (TWeight.lit t4_1)) (cs1 := (TWeight.lit t4_1)) q q sz33 q ⟨Nat.le_of_ble_eq_true q, q⟩ q)<|.nil0)<|.seq<|.seq<|.reg0 q (.o (mvR q)<|.o (lnR (l := a1) sl31 q)<|.o (mvV q)<|.nil0) ?_
    refine .block<|.keepL [0, 1, 2] [(2, .ptr 0 1 3 0 0), (4, .ptr 1 1 6 0 0), (7, .ptr 2 1 6 0 0), (19, .rows (a1.map TWeight.cells)), (20, i6 (a1.length : Int)), (21, i6 0)] [⟨3, [(TSpace.lit a0)], 0, none⟩, ⟨6, [GG_c0], 0, none⟩, ⟨6, [(TWeight.lit t4_1)], 0, none⟩] (by decide) (by decide) ⟨.ptr q, .ptr q, .ptr q, .free q q, .free q q, .free q q, trivial⟩ ⟨⟨_, q, bcBox (all2_free q)⟩, ⟨_, q, bcBox (all2_free q)⟩, ⟨_, q, bcBox (all2_free q)⟩, trivial⟩ ?_
    obtain ⟨o1, hL1, h⟩ := h
    refine .loopB (weight_Extend.b1 a0 a1) (fun (x1, x2, x3, x4, x5, x6, x7) => listEnv [(2, .ptr 0 1 3 0 0), (4, .ptr 1 1 6 0 0), (7, .ptr 2 1 6 0 0), (19, .rows (a1.map TWeight.cells)), (20, i6 (a1.length : Int)), (21, i6 x7)]) (fun (x1, x2, x3, x4, x5, x6, x7) => [⟨3, [(TSpace.lit a0)], 0, none⟩, ⟨6, [GG_c0], 0, none⟩, ⟨6, [[bo x1, i6 x2, u6 x3, .rows (x4.map (cInt .u64)), .rows (x5.map TCell.cells), .rows (x6.map TWeight.cells)]], 0, none⟩]) (fun (x8, x9, x10, x11, x12, x13) => listEnv [(4, .ptr 0 1 6 0 0), (7, .ptr 1 1 6 0 0)]) (fun (x8, x9, x10, x11, x12, x13) => [⟨6, [GG_c0], 0, none⟩, ⟨6, [[bo x8, i6 x9, u6 x10, .rows (x11.map (cInt .u64)), .rows (x12.map TCell.cells), .rows (x13.map TWeight.cells)]], 0, none⟩]) hL1 (fun r_ => r = r_) ?_ ?_ ?_
    · rintro ⟨x8, x9, x10, x11, x12, x13⟩ rfl
      try dsimp only [Fin.on] at h
      refine .seq ?_
      obtain ⟨t18_1, g18_1, h⟩ := h
      refine .reg0 q (.o (ldG q sz33 ag33 q)<|.c q go45 q q q (weight_copied.D g18_1)<|.o (stB (cs0 := GG_c0) (cs := (TWeight.lit t18_1)) (cs1 := (TWeight.lit t18_1)) q q sz33 q ⟨Nat.le_of_ble_eq_true q, q⟩ q)<|.a q<|.nil0) ?_
      replace h := h.symm
      subst h
      refine .k [(4, .cptr (TWeight.lit t18_1) 0), (5, i6 0)] ⟨cFixP q q (.cons (.free q q)<|.cons (.free q q)<|.cons (.free q q)<|.cons (.free q q)<|.cons (.free q q)<|.cons (.free q q)<|.nil), .free q q, trivial⟩ ?_
      exact .ret q
    · rintro r_ rfl
      exact h
    · rintro ⟨x1, x2, x3, x4, x5, x6, x7⟩ z1 h hn1 hx1 hr1
      dsimp only [weight_Extend.b1] at h
      refine .seq<|.reg0 q (.o (ltI q q)<|.nil0)<|.seq ?_
      by_cases c4 : x7 < (a1.length : Int)
      · rw [if_pos c4] at h
        refine .condT q (dt c4)<|.skip<|.seq<|.block<|.seq ?_
        obtain ⟨g15_0, h⟩ := h
        refine .room 0<|.reg0 q (.o (ixR (l := a1) (lit := TWeight.lit) sl31 q q TWeight.cells_lit g15_0.1 g15_0.2)<|.o (ldCG q sz33 ag33 q)<|.op 3 q (alP (s := 6) ze33 ⟨q, by decide, q⟩ q)<|.o (stB (cs0 := GG_c0) (cs := (TWeight.lit (rdl a1 x7))) (cs1 := (TWeight.lit (rdl a1 x7))) q q sz33 q ⟨Nat.le_of_ble_eq_true q, q⟩ q)<|.nil0) ?_
        obtain ⟨t16_3, g16_3, h⟩ := h
        refine .reg0 q (.o (ldG q sz25 ag25 q)<|.o (ldG q sz33 ag33 q)<|.o (ldG q sz33 ag33 q)<|.c q go49 q q q (weight_then.D g16_3)<|.o (stB (cs0 := [bo x1, i6 x2, u6 x3, .rows (x4.map (cInt .u64)), .rows (x5.map TCell.cells), .rows (x6.map TWeight.cells)]) (cs := (TWeight.lit t16_3)) (cs1 := (TWeight.lit t16_3)) q q sz33 q ⟨Nat.le_of_ble_eq_true q, q⟩ q)<|.nil0) ?_
        refine .inBlock<|.reg0 q (.o (addI q q)<|.o (mvV q)<|.nil0)<|.keepL [0, 1, 2] [(2, .ptr 0 1 3 0 0), (4, .ptr 1 1 6 0 0), (7, .ptr 2 1 6 0 0), (19, .rows (a1.map TWeight.cells)), (20, i6 (a1.length : Int)), (21, i6 (IntKind.i64.wrap (x7 + 1)))] [⟨3, [(TSpace.lit a0)], 0, none⟩, ⟨6, [GG_c0], 0, none⟩, ⟨6, [(TWeight.lit t16_3)], 0, none⟩] (by decide) (by decide) ⟨.ptr q, .ptr q, .ptr q, .free q q, .free q q, .free q q, trivial⟩ ⟨⟨_, q, bcBox (all2_free q)⟩, ⟨_, q, bcBox (all2_free q)⟩, ⟨_, q, bcBox (all2_free q)⟩, trivial⟩ ?_
        exact hn1 _ h
      · rw [if_neg c4] at h
        refine .condF q (df c4)<|.exit q<|.keepL [1, 2] [(4, .ptr 0 1 6 0 0), (7, .ptr 1 1 6 0 0)] [⟨6, [GG_c0], 0, none⟩, ⟨6, [[bo x1, i6 x2, u6 x3, .rows (x4.map (cInt .u64)), .rows (x5.map TCell.cells), .rows (x6.map TWeight.cells)]], 0, none⟩] (by decide) (by decide) ⟨.ptr q, .ptr q, trivial⟩ ⟨⟨_, q, bcBox (all2_free q)⟩, ⟨_, q, bcBox (all2_free q)⟩, trivial⟩ ?_
        exact hx1 _ h
  · rw [if_neg c1] at h
    refine .condT q (nt c1)<|.seq<|.reg0 q (.o (bldS (cs := GG_c0) ze33 pl33 q q)<|.o (mvV q)<|.o (stB (cs0 := GG_c0) (cs := GG_c0) (cs1 := GG_c0) q q sz33 q ⟨Nat.le_of_ble_eq_true q, q⟩ q)<|.o (asV q)<|.nil0) ?_
    replace h := h.symm
    subst h
    refine .k [(4, .cptr GG_c2 0), (5, i6 t2_2)] ⟨cFixP q q (.cons (.free q q)<|.cons (.free q q)<|.cons (.free q q)<|.cons (.nil)<|.cons (.nil)<|.cons (.nil)<|.nil), .free q q, trivial⟩ ?_
    exact .ret q
def l05_extend.f (a0 : TSpace) (a1 : List TWeight) (r : TWeight) : Prop :=
  ∃ t2_2 : TWeight × Int, (weight_Extend.f a0 a1 t2_2) ∧ r = t2_2.1
theorem l05_extend.D {a0 a1 r} (h : l05_extend.f a0 a1 r) : D Tryz.prog X (.callH 17 [.agg (TSpace.lit a0), .rows (a1.map TWeight.cells)] [] (.agg (TWeight.lit r)) []) := by
  unfold l05_extend.f at h
  refine .enter 14 0 fn17 q q q<|.seq<|.room 0<|.room 0<|.reg0 q (.o (bxP (s := 3) (cs := (TSpace.lit a0)) q ⟨q, by decide, q⟩ q)<|.op 1 q (alP (s := 6) ze33 ⟨q, by decide, q⟩ q)<|.nil0)<|.seq ?_
  obtain ⟨t2_2, g2_2, h⟩ := h
  refine .room 0<|.reg0 q (.o (ldG q sz25 ag25 q)<|.o (mvR q)<|.callI q (callee_of q go21 q) (.pure q q (weight_Extend.D g2_2))<|.o (mvT q)<|.o (exT q q)<|.o (exT q q)<|.op 2 q (alP (s := 6) ze33 ⟨q, by decide, q⟩ q)<|.o (stB (cs0 := GG_c0) (cs := (TWeight.lit t2_2.1)) (cs1 := (TWeight.lit t2_2.1)) q q sz33 q ⟨Nat.le_of_ble_eq_true q, q⟩ q)<|.o (asV q)<|.nil0) ?_
  refine .seq<|.reg0 q (.o (ldG q sz33 ag33 q)<|.o (stB (cs0 := GG_c0) (cs := (TWeight.lit t2_2.1)) (cs1 := (TWeight.lit t2_2.1)) q q sz33 q ⟨Nat.le_of_ble_eq_true q, q⟩ q)<|.nil0) ?_
  replace h := h.symm
  subst h
  refine .k [(4, .cptr (TWeight.lit t2_2.1) 0)] ⟨cFixP q q (.cons (.free q q)<|.cons (.free q q)<|.cons (.free q q)<|.cons (.free q q)<|.cons (.free q q)<|.cons (.free q q)<|.nil), trivial⟩ ?_
  exact .ret q
end Go.RM.Tryz
