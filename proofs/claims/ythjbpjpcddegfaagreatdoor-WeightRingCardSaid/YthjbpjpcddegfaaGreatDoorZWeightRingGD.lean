/- GD, for the statement WeightRing: what it needs, no more. -/
import Derived.Test.YthjbpjpcddegfaaGreatDoorZWeightRingGC
set_option linter.unusedVariables false
set_option maxRecDepth 8000
set_option maxHeartbeats 4000000
namespace Go.RM.Tryz
open Go.RM Go.Proofs
def r03_Same.b1 (a0 : TFacts) (a1 : TFacts) : Int → Rnd Int Unit Bool → Prop := fun x1 z1 => if x1 < (a0.Rows.length : Int) then (((InR x1 a0.Rows.length)) ∧ ((InR x1 a1.Rows.length)) ∧ if (rdl a0.Rows x1) = (rdl a1.Rows x1) then (z1 = .next (IntKind.i64.wrap (x1 + 1))) else (z1 = .ret false)) else (z1 = .exit ())
def r03_Same.f (a0 : TFacts) (a1 : TFacts) (r : Bool) : Prop :=
  if ((!(a0.Gen == a1.Gen)) || ((a0.Rows.length : Int) != (a1.Rows.length : Int))) = true then (r = false) else (∃ o1 : Fin Unit Bool, Loop (r03_Same.b1 a0 a1) 0 o1 ∧ o1.on (fun _ => r = true) (fun r_ => r = r_))
abbrev GD_c0 : List PV := [bo false, i6 0, u6 0, nul, nul, nul]
theorem r03_Same.D {a0 a1 r} (h : r03_Same.f a0 a1 r) : D Tryz.prog X (.callH 42 [.agg (TFacts.lit a0), .agg (TFacts.lit a1)] [] (.val (.bool r)) []) := by
  unfold r03_Same.f at h
  refine .enter 38 0 fn42 q q q<|.seq<|.room 0<|.room 0<|.reg0 q (.o (bxP (s := 2) (cs := (TFacts.lit a0)) q ⟨q, by decide, q⟩ q)<|.op 1 q (bxP (s := 2) (cs := (TFacts.lit a1)) q ⟨q, by decide, q⟩ q)<|.o (asV q)<|.nil0)<|.seq<|.seq ?_
  refine .reg0 (e1 := listEnv [(2, .ptr 0 1 2 0 0), (3, .ptr 1 1 2 0 0), (19, bo ((!(a0.Gen == a1.Gen)) || ((a0.Rows.length : Int) != (a1.Rows.length : Int))))]) (H1 := [⟨2, [(TFacts.lit a0)], 0, none⟩, ⟨2, [(TFacts.lit a1)], 0, none⟩]) q ?_ ?_
  · refine .o (faP fa29_0 q)<|.o (ldP q sz26 ag26 q)<|.o (faP fa29_0 q)<|.o (ldP q sz26 ag26 q)<|.o (neI q q)<|.m q<|?_
    by_cases c1 : a0.Gen = a1.Gen
    · exact (.g q (nf c1) (faP fa29_1 q)<|.g q (nf c1) (ldP q sz27 ag27 q)<|.g q (nf c1) (lnR (l := a0.Rows) sl27 q)<|.g q (nf c1) (faP fa29_1 q)<|.g q (nf c1) (ldP q sz27 ag27 q)<|.g q (nf c1) (lnR (l := a1.Rows) sl27 q)<|.g q (nf c1) (neI q q)<|.o (pkFV q (nf c1) q)<|.nilL _ ⟨.ptr q, .ptr q, cB q (mOrF (bnotF (bt c1)) q), trivial⟩)
    · exact (.n q (nt c1)<|.n q (nt c1)<|.n q (nt c1)<|.n q (nt c1)<|.n q (nt c1)<|.n q (nt c1)<|.n q (nt c1)<|.o (pkTV q (nt c1) q)<|.nilL _ ⟨.ptr q, .ptr q, cB q (mOrT (bnotT (bn c1))), trivial⟩)
  by_cases c2 : ((!(a0.Gen == a1.Gen)) || ((a0.Rows.length : Int) != (a1.Rows.length : Int))) = true
  · rw [if_pos c2] at h
    refine .condT q c2<|.seq<|.reg0 q (.o (asV q)<|.nil0) ?_
    replace h := h.symm
    subst h
    refine .kf [(4, bo false)] q q ?_
    exact .ret q
  · rw [if_neg c2] at h
    refine .condF q (nb c2)<|.skip<|.seq<|.seq<|.reg0 q (.o (asV q)<|.nil0)<|.block<|.keepL [0, 1] [(2, .ptr 0 1 2 0 0), (3, .ptr 1 1 2 0 0), (5, i6 0)] [⟨2, [(TFacts.lit a0)], 0, none⟩, ⟨2, [(TFacts.lit a1)], 0, none⟩] (by decide) (by decide) ⟨.ptr q, .ptr q, .free q q, trivial⟩ ⟨⟨_, q, bcBox (all2_free q)⟩, ⟨_, q, bcBox (all2_free q)⟩, trivial⟩ ?_
    obtain ⟨o1, hL1, h⟩ := h
    refine .loopB (r03_Same.b1 a0 a1) (fun x1 => listEnv [(2, .ptr 0 1 2 0 0), (3, .ptr 1 1 2 0 0), (5, i6 x1)]) (fun x1 => [⟨2, [(TFacts.lit a0)], 0, none⟩, ⟨2, [(TFacts.lit a1)], 0, none⟩]) (fun _ => listEnv []) (fun _ => []) hL1 (fun r_ => r = r_) ?_ ?_ ?_
    · rintro ⟨⟩ rfl
      try dsimp only [Fin.on] at h
      refine .seq<|.reg0 q (.o (asV q)<|.nil0) ?_
      replace h := h.symm
      subst h
      refine .kf [(4, bo true)] q q ?_
      exact .ret q
    · rintro r_ rfl
      exact h
    · rintro x1 z1 h hn1 hx1 hr1
      dsimp only [r03_Same.b1] at h
      refine .seq<|.seq<|.reg0 q (.o (mvV q)<|.o (faP fa29_1 q)<|.o (ldP q sz27 ag27 q)<|.o (lnR (l := a0.Rows) sl27 q)<|.o (ltI q q)<|.nil0) ?_
      by_cases c7 : x1 < (a0.Rows.length : Int)
      · rw [if_pos c7] at h
        refine .condT q (dt c7)<|.skip<|.seq<|.block<|.seq ?_
        obtain ⟨g14_3, h⟩ := h
        obtain ⟨g14_8, h⟩ := h
        refine .reg1 (e1 := listEnv [(2, .ptr 0 1 2 0 0), (3, .ptr 1 1 2 0 0), (5, i6 x1), (37, bo ((rdl a0.Rows x1) != (rdl a1.Rows x1)))]) (H1 := [⟨2, [(TFacts.lit a0)], 0, none⟩, ⟨2, [(TFacts.lit a1)], 0, none⟩]) q ?_ ?_
        · exact .drawM [(10, 37, bo ((rdl a0.Rows x1) != (rdl a1.Rows x1))), (9, 36, u6 (rdl a1.Rows x1)), (8, 35, .cptr ((cInt .u64) (rdl a1.Rows x1)) 0), (7, 34, i6 x1), (6, 33, .rows (a1.Rows.map (cInt .u64))), (5, 32, .ptr 1 1 2 0 1), (4, 31, u6 (rdl a0.Rows x1)), (3, 30, .cptr ((cInt .u64) (rdl a0.Rows x1)) 0), (2, 29, i6 x1), (1, 28, .rows (a0.Rows.map (cInt .u64))), (0, 27, .ptr 0 1 2 0 1)] [] [[], [0], [], [1, 0, 2], [3, 1, 0, 2], [], [5], [], [6, 5, 7], [8, 6, 5, 7], [4, 3, 1, 0, 2, 9, 8, 6, 5, 7]] (by rfl) (by rfl) (by rfl) (by exact ⟨oP (fun _ => faP fa29_1 q) q, oP (fun _ => ldP q sz27 ag27 q) q, oP (fun _ => mvV q) q, oP (fun _ => ixR (l := a0.Rows) (lit := (cInt .u64)) sl27 q q (fun _ => q) g14_3.1 g14_3.2) q, oP (fun _ => ldC q sz26 ag26 q) q, oP (fun _ => faP fa29_1 q) q, oP (fun _ => ldP q sz27 ag27 q) q, oP (fun _ => mvV q) q, oP (fun _ => ixR (l := a1.Rows) (lit := (cInt .u64)) sl27 q q (fun _ => q) g14_8.1 g14_8.2) q, oP (fun _ => ldC q sz26 ag26 q) q, oP (fun _ => neI q q) q, trivial⟩) _ (by exact ⟨.ptr q, .ptr q, .free q q, .free q q, trivial⟩) (by rfl)
        by_cases c8 : (rdl a0.Rows x1) = (rdl a1.Rows x1)
        · rw [if_pos c8] at h
          refine .condF q (nf c8)<|.skip<|.inBlock<|.reg0 q (.o (mvV q)<|.o (addI q q)<|.o (asV q)<|.nil0)<|.keepL [0, 1] [(2, .ptr 0 1 2 0 0), (3, .ptr 1 1 2 0 0), (5, i6 (IntKind.i64.wrap (x1 + 1)))] [⟨2, [(TFacts.lit a0)], 0, none⟩, ⟨2, [(TFacts.lit a1)], 0, none⟩] (by decide) (by decide) ⟨.ptr q, .ptr q, .free q q, trivial⟩ ⟨⟨_, q, bcBox (all2_free q)⟩, ⟨_, q, bcBox (all2_free q)⟩, trivial⟩ ?_
          exact hn1 _ h
        · rw [if_neg c8] at h
          refine .condT q (nt c8)<|.seq<|.reg0 q (.o (asV q)<|.nil0) ?_
          have q3 := hr1 _ h
          replace q3 := q3.symm
          subst q3
          refine .kf [(4, bo false)] q q ?_
          exact .ret q
      · rw [if_neg c7] at h
        refine .condF q (df c7)<|.exit q<|.keepL [] [] [] (by decide) (by decide) trivial trivial ?_
        exact hx1 _ h
def r03_Check.f (a0 : Int) (a1 : TFacts) (r : Int) : Prop :=
  ∃ t2_1 : Bool, (r03_dim.f a0 t2_1) ∧ if t2_1 = true then (∃ t3_2 : Bool, (r03_shape.f a0 a1 t3_2) ∧ ∃ t3_6 : TFacts, ((t3_2 = true) → r03_canon.f a1 t3_6) ∧ ∃ t3_8 : Bool, ((t3_2 = true) → r03_Same.f t3_6 a1 t3_8) ∧ if ((!t3_2) || (!t3_8)) = true then (r = 30) else (r = 0)) else (r = 31)
abbrev GD_A0 : List (List Nat) := [[], [], [0, 1], [2, 0, 1], [3, 2, 0, 1], [4, 3, 2, 0, 1], [5, 4, 3, 2, 0, 1], [4, 3, 2, 0, 1], [6, 5, 4, 3, 2, 0, 1, 7], [8, 6, 5, 4, 3, 2, 0, 1, 7], [4, 3, 2, 0, 1, 9, 8, 6, 5, 7]]
theorem r03_Check.D {a0 a1 r} (h : r03_Check.f a0 a1 r) : D Tryz.prog X (.callH 66 [.val (.int .i64 a0), .agg (TFacts.lit a1)] [] (.val (.int .i64 r)) []) := by
  unfold r03_Check.f at h
  refine .enter 19 0 fn66 q q q<|.seq<|.room 0<|.reg0 q (.o (bxP (s := 2) (cs := (TFacts.lit a1)) q ⟨q, by decide, q⟩ q)<|.o (asV q)<|.nil0)<|.seq<|.seq ?_
  obtain ⟨t2_1, g2_1, h⟩ := h
  refine .reg0 q (.m q<|.c q go111 q q q (r03_dim.D g2_1)<|.o (notB q)<|.nil0) ?_
  by_cases c1 : t2_1 = true
  · rw [if_pos c1] at h
    refine .condF q (bnotF c1)<|.skip<|.seq<|.seq ?_
    obtain ⟨t3_2, g3_2, h⟩ := h
    obtain ⟨t3_6, g3_6, h⟩ := h
    obtain ⟨t3_8, g3_8, h⟩ := h
    refine .reg1 (e1 := listEnv [(18, bo ((!t3_2) || (!t3_8)))]) (H1 := [⟨2, [(TFacts.lit a1)], 0, none⟩]) q ?_ ?_
    · by_cases c2 : t3_2 = true
      · exact .drawM [(10, 18, bo (!t3_8)), (9, 17, bo (!t3_8)), (8, 16, bo t3_8), (7, 15, .agg (TFacts.lit a1)), (6, 14, .agg (TFacts.lit t3_6)), (5, 13, .agg (TFacts.lit a1)), (4, 12, bo (!t3_2)), (3, 11, bo (!t3_2)), (2, 10, bo t3_2), (1, 9, .agg (TFacts.lit a1)), (0, 8, i6 a0)] [] GD_A0 (by rfl) (by rfl) (by rfl) (by exact ⟨oP (fun _ => mvV q) q, oP (fun _ => ldG q sz29 ag29 q) q, fun S hS hD hn => .oneI hS hD hn q q (callee_of q go112 q) (.pure q q (r03_shape.D g3_2)) q q q, oP (fun _ => notB q) q, oP (fun _ => mvV q) q, oG q (fun _ => q) (bnotF c2) (fun _ => ldG q sz29 ag29 q) q, fun S hS hD hn => .oneI hS hD hn (gT q q q (bnotF c2)) q (callee_of q go113 q) (.pure q q (r03_canon.D (g3_6 c2))) q q q, oG q (fun _ => q) (bnotF c2) (fun _ => ldG q sz29 ag29 q) q, fun S hS hD hn => .oneI hS hD hn (gT q q q (bnotF c2)) q (callee_of q go42 q) (.pure q q (r03_Same.D (g3_8 c2))) q q q, oG q (fun _ => q) (bnotF c2) (fun _ => notB q) q, oP (fun _ => pkFV q (bnotF c2) q) q, trivial⟩) _ (by exact ⟨cB q (mOrF (bnotF c2) q), trivial⟩) (by rfl)
      · exact .drawM [(10, 18, bo true), (9, 17, und), (8, 16, und), (7, 15, und), (6, 14, und), (5, 13, und), (4, 12, bo (!t3_2)), (3, 11, bo (!t3_2)), (2, 10, bo t3_2), (1, 9, .agg (TFacts.lit a1)), (0, 8, i6 a0)] [] GD_A0 (by rfl) (by rfl) (by rfl) (by exact ⟨oP (fun _ => mvV q) q, oP (fun _ => ldG q sz29 ag29 q) q, fun S hS hD hn => .oneI hS hD hn q q (callee_of q go112 q) (.pure q q (r03_shape.D g3_2)) q q q, oP (fun _ => notB q) q, oP (fun _ => mvV q) q, oN q (fun _ => q) (bnotT (nb c2)) q, oN q (fun _ => q) (bnotT (nb c2)) q, oN q (fun _ => q) (bnotT (nb c2)) q, oN q (fun _ => q) (bnotT (nb c2)) q, oN q (fun _ => q) (bnotT (nb c2)) q, oP (fun _ => pkTV q (bnotT (nb c2)) q) q, trivial⟩) _ (by exact ⟨cB q (mOrT (bnotT (nb c2))), trivial⟩) (by rfl)
    by_cases c3 : ((!t3_2) || (!t3_8)) = true
    · rw [if_pos c3] at h
      refine .condT q c3<|.seq<|.reg0 q (.o (asV q)<|.nil0) ?_
      replace h := h.symm
      subst h
      refine .kf [(4, i6 30)] q q ?_
      exact .ret q
    · rw [if_neg c3] at h
      refine .condF q (nb c3)<|.skip<|.seq<|.reg0 q (.o (asV q)<|.nil0) ?_
      replace h := h.symm
      subst h
      refine .kf [(4, i6 0)] q q ?_
      exact .ret q
  · rw [if_neg c1] at h
    refine .condT q (bnotT (nb c1))<|.seq<|.reg0 q (.o (asV q)<|.nil0) ?_
    replace h := h.symm
    subst h
    refine .kf [(4, i6 31)] q q ?_
    exact .ret q
def r05_cell.f (a0 : Int) (a1 : TCell) (r : Bool) : Prop :=
  ∃ t2_3 : Bool, (r03_Inside.f a0 a1.From t2_3) ∧ if t2_3 = true then (if a1.Kind = 0 then (r = (a1.K == 0)) else (if a1.Kind = 1 then (r = true) else (if a1.Kind = 2 then (r = ((a1.K == 0) && (a1.From == 0))) else (r = false)))) else (r = false)
theorem r05_cell.D {a0 a1 r} (h : r05_cell.f a0 a1 r) : D Tryz.prog X (.callH 67 [.val (.int .i64 a0), .agg (TCell.lit a1)] [] (.val (.bool r)) []) := by
  unfold r05_cell.f at h
  refine .enter 29 0 fn67 q q q<|.seq<|.room 0<|.reg0 q (.o (bxP (s := 3) (cs := (TCell.lit a1)) q ⟨q, by decide, q⟩ q)<|.o (asV q)<|.nil0)<|.seq<|.seq ?_
  obtain ⟨t2_3, g2_3, h⟩ := h
  refine .reg0 q (.m q<|.o (faP fa74_0 q)<|.o (ldP q sz26 ag26 q)<|.c q go114 q q q (r03_Inside.D g2_3)<|.o (notB q)<|.nil0) ?_
  by_cases c1 : t2_3 = true
  · rw [if_pos c1] at h
    refine .condF q (bnotF c1)<|.skip<|.seq<|.seq<|.reg0 q (.o (faP fa74_1 q)<|.o (ldP q sz72 ag72 q)<|.nil0)<|.block<|.seq<|.reg0 q (.o (eqI q q)<|.o (asV q)<|.nil0) ?_
    by_cases c2 : a1.Kind = 0
    · rw [if_pos c2] at h
      refine .condT q (bt c2)<|.seq<|.reg0 q (.o (faP fa74_2 q)<|.o (ldP q sz2 ag2 q)<|.o (eqI q q)<|.o (asV q)<|.nil0) ?_
      replace h := h.symm
      subst h
      refine .kf [(4, bo (a1.K == 0))] q q ?_
      exact .ret q
    · rw [if_neg c2] at h
      refine .condF q (bn c2)<|.seq<|.reg0 q (.o (eqI q q)<|.o (asV q)<|.nil0) ?_
      by_cases c3 : a1.Kind = 1
      · rw [if_pos c3] at h
        refine .condT q (bt c3)<|.seq<|.reg0 q (.o (asV q)<|.nil0) ?_
        replace h := h.symm
        subst h
        refine .kf [(4, bo true)] q q ?_
        exact .ret q
      · rw [if_neg c3] at h
        refine .condF q (bn c3)<|.seq<|.reg0 q (.o (eqI q q)<|.o (asV q)<|.nil0) ?_
        by_cases c4 : a1.Kind = 2
        · rw [if_pos c4] at h
          refine .condT q (bt c4)<|.seq ?_
          refine .reg0 (e1 := listEnv [(4, bo ((a1.K == 0) && (a1.From == 0)))]) (H1 := [⟨3, [(TCell.lit a1)], 0, none⟩]) q ?_ ?_
          · refine .o (faP fa74_2 q)<|.o (ldP q sz2 ag2 q)<|.o (eqI q q)<|.m q<|?_
            by_cases c5 : a1.K = 0
            · exact (.g q (bt c5) (faP fa74_0 q)<|.g q (bt c5) (ldP q sz26 ag26 q)<|.g q (bt c5) (eqI q q)<|.o (pkTV q (bt c5) q)<|.a q<|.nilL _ ⟨cB q (mAndT (bt c5) q), trivial⟩)
            · exact (.n q (bn c5)<|.n q (bn c5)<|.n q (bn c5)<|.o (pkFV q (bn c5) q)<|.a q<|.nilL _ ⟨cB q (mAndF (bn c5)), trivial⟩)
          replace h := h.symm
          subst h
          refine .kf [(4, bo ((a1.K == 0) && (a1.From == 0)))] q q ?_
          exact .ret q
        · rw [if_neg c4] at h
          refine .condF q (bn c4)<|.skip<|.inBlock<|.seq<|.reg0 q (.o (asV q)<|.nil0) ?_
          replace h := h.symm
          subst h
          refine .kf [(4, bo false)] q q ?_
          exact .ret q
  · rw [if_neg c1] at h
    refine .condT q (bnotT (nb c1))<|.seq<|.reg0 q (.o (asV q)<|.nil0) ?_
    replace h := h.symm
    subst h
    refine .kf [(4, bo false)] q q ?_
    exact .ret q
def r05_is.b1 (a0 : TSpace) (a1 : TWeight) : Int → Rnd Int Unit Bool → Prop := fun x1 z1 => if x1 < (a1.Cells.length : Int) then (((InR x1 a1.Cells.length)) ∧ ∃ t24_7 : Bool, (r05_cell.f a0.Dim (rdl a1.Cells x1) t24_7) ∧ if t24_7 = true then (z1 = .next (IntKind.i64.wrap (x1 + 1))) else (z1 = .ret false)) else (z1 = .exit ())
def r05_is.step (self39 : TSpace → TWeight → Bool → Prop) (a0 : TSpace) (a1 : TWeight) (r : Bool) : Prop :=
  if a1.Zero = true then (∃ t3_5 : Bool, (¬ (a0.Tag = 5) → r05_plain.f a1 false false false false t3_5) ∧ r = ((!(a0.Tag == 5)) && t3_5)) else (if a0.Tag = 1 then (∃ t6_1 : Bool, (r05_plain.f a1 false false false false t6_1) ∧ r = t6_1) else (if a0.Tag = 2 then (∃ t8_1 : Bool, (r05_plain.f a1 true false false false t8_1) ∧ r = (t8_1 && ((decide (a1.Cost ≥ 0)) && (decide (a1.Cost ≤ a0.Dim))))) else (if a0.Tag = 3 then (∃ t10_1 : Bool, (r05_plain.f a1 false true false false t10_1) ∧ ∃ t10_7 : Int, ((t10_1 = true) → r03_Check.f a0.Dim a1.Facts t10_7) ∧ r = (t10_1 && (t10_7 == 0))) else (if a0.Tag = 4 then (∃ t12_1 : Bool, (r05_plain.f a1 false false true false t12_1) ∧ if ((!t12_1) || ((a1.Cells.length : Int) != a0.Dim)) = true then (r = false) else (∃ o1 : Fin Unit Bool, Loop (r05_is.b1 a0 a1) 0 o1 ∧ o1.on (fun _ => r = true) (fun r_ => r = r_))) else (∃ t28_1 : Bool, (r05_plain.f a1 false false false true t28_1) ∧ ((t28_1 = true) → ((a1.Parts.length : Int) = 2) → (InR 0 a0.Parts.length)) ∧ ((t28_1 = true) → ((a1.Parts.length : Int) = 2) → (InR 0 a1.Parts.length)) ∧ ∃ t28_17 : Bool, ((t28_1 = true) → ((a1.Parts.length : Int) = 2) → self39 (rdl a0.Parts 0) (rdl a1.Parts 0) t28_17) ∧ ((t28_1 = true) → ((a1.Parts.length : Int) = 2) → (t28_17 = true) → (InR 1 a0.Parts.length)) ∧ ((t28_1 = true) → ((a1.Parts.length : Int) = 2) → (t28_17 = true) → (InR 1 a1.Parts.length)) ∧ ∃ t28_28 : Bool, ((t28_1 = true) → ((a1.Parts.length : Int) = 2) → (t28_17 = true) → self39 (rdl a0.Parts 1) (rdl a1.Parts 1) t28_28) ∧ r = (t28_1 && (((a1.Parts.length : Int) == 2) && (t28_17 && t28_28))))))))
abbrev GD_A1 : List (List Nat) := [[], [0], [1, 0], [2, 1, 0], [3, 2, 1, 0], [4, 3, 2, 1, 0], [5, 4, 3, 2, 1, 0], [2, 1, 0, 6, 5, 4, 3], [7, 2, 1, 0, 6, 5, 4, 3], [8, 7, 2, 1, 0, 6, 5, 4, 3], [9, 8, 7, 2, 1, 0, 6, 5, 4, 3], [10, 9, 8, 7, 2, 1, 0, 6, 5, 4, 3], [11, 10, 9, 8, 7, 2, 1, 0, 6, 5, 4, 3], [8, 7, 2, 1, 0, 6, 5, 4, 3], [13, 8, 7, 2, 1, 0, 6, 5, 4, 3], [14, 13, 8, 7, 2, 1, 0, 6, 5, 4, 3], [15, 14, 13, 8, 7, 2, 1, 0, 6, 5, 4, 3], [12, 11, 10, 9, 8, 7, 2, 1, 0, 6, 5, 4, 3, 16, 15, 14, 13], [8, 7, 2, 1, 0, 6, 5, 4, 3, 17, 12, 11, 10, 9, 16, 15, 14, 13], [18, 8, 7, 2, 1, 0, 6, 5, 4, 3, 17, 12, 11, 10, 9, 16, 15, 14, 13], [19, 18, 8, 7, 2, 1, 0, 6, 5, 4, 3, 17, 12, 11, 10, 9, 16, 15, 14, 13], [20, 19, 18, 8, 7, 2, 1, 0, 6, 5, 4, 3, 17, 12, 11, 10, 9, 16, 15, 14, 13], [21, 20, 19, 18, 8, 7, 2, 1, 0, 6, 5, 4, 3, 17, 12, 11, 10, 9, 16, 15, 14, 13], [22, 21, 20, 19, 18, 8, 7, 2, 1, 0, 6, 5, 4, 3, 17, 12, 11, 10, 9, 16, 15, 14, 13], [19, 18, 8, 7, 2, 1, 0, 6, 5, 4, 3, 17, 12, 11, 10, 9, 16, 15, 14, 13], [24, 19, 18, 8, 7, 2, 1, 0, 6, 5, 4, 3, 17, 12, 11, 10, 9, 16, 15, 14, 13], [25, 24, 19, 18, 8, 7, 2, 1, 0, 6, 5, 4, 3, 17, 12, 11, 10, 9, 16, 15, 14, 13], [26, 25, 24, 19, 18, 8, 7, 2, 1, 0, 6, 5, 4, 3, 17, 12, 11, 10, 9, 16, 15, 14, 13], [23, 22, 21, 20, 19, 18, 8, 7, 2, 1, 0, 6, 5, 4, 3, 17, 12, 11, 10, 9, 16, 15, 14, 13, 27, 26, 25, 24], [19, 18, 8, 7, 2, 1, 0, 6, 5, 4, 3, 17, 12, 11, 10, 9, 16, 15, 14, 13, 28, 23, 22, 21, 20, 27, 26, 25, 24], [29, 19, 18, 8, 7, 2, 1, 0, 6, 5, 4, 3, 17, 12, 11, 10, 9, 16, 15, 14, 13, 28, 23, 22, 21, 20, 27, 26, 25, 24]]
theorem r05_is.stepD {self39 : TSpace → TWeight → Bool → Prop} {a0 : TSpace} {a1 : TWeight} (hs39 : ∀ z0_ z1_ r_, self39 z0_ z1_ r_ → D Tryz.prog X (.callH 39 [.agg (TSpace.lit z0_), .agg (TWeight.lit z1_)] [] (.val (.bool r_)) [])) {r : Bool} (h : r05_is.step self39 a0 a1 r) : D Tryz.prog X (.callH 39 [.agg (TSpace.lit a0), .agg (TWeight.lit a1)] [] (.val (.bool r)) []) := by
  unfold r05_is.step at h
  refine .enter 108 0 fn39 q q q<|.seq<|.room 0<|.room 0<|.reg0 q (.o (bxP (s := 3) (cs := (TSpace.lit a0)) q ⟨q, by decide, q⟩ q)<|.op 1 q (bxP (s := 6) (cs := (TWeight.lit a1)) q ⟨q, by decide, q⟩ q)<|.o (asV q)<|.nil0)<|.seq<|.seq<|.reg0 q (.o (faP fa33_0 q)<|.o (ldP q sz4 ag4 q)<|.nil0) ?_
  by_cases c1 : a1.Zero = true
  · rw [if_pos c1] at h
    refine .condT q c1<|.seq ?_
    obtain ⟨t3_5, g3_5, h⟩ := h
    refine .reg0 (e1 := listEnv [(4, bo ((!(a0.Tag == 5)) && t3_5))]) (H1 := [⟨3, [(TSpace.lit a0)], 0, none⟩, ⟨6, [(TWeight.lit a1)], 0, none⟩]) q ?_ ?_
    · refine .o (faP fa25_0 q)<|.o (ldP q sz22 ag22 q)<|.o (neI q q)<|.m q<|?_
      by_cases c2 : a0.Tag = 5
      · exact (.n q (nf c2)<|.n q (nf c2)<|.o (pkFV q (nf c2) q)<|.a q<|.nilL _ ⟨cB q (mAndF (bnotF (bt c2))), trivial⟩)
      · exact (.g q (nt c2) (ldG q sz33 ag33 q)<|.callI (gT q q q (nt c2)) (callee_of q go65 q) (.pure q q (r05_plain.D (g3_5 c2)))<|.o (pkTV q (nt c2) q)<|.a q<|.nilL _ ⟨cB q (mAndT (bnotT (bn c2)) q), trivial⟩)
    replace h := h.symm
    subst h
    refine .kf [(4, bo ((!(a0.Tag == 5)) && t3_5))] q q ?_
    exact .ret q
  · rw [if_neg c1] at h
    refine .condF q (nb c1)<|.skip<|.seq<|.seq<|.reg0 q (.o (faP fa25_0 q)<|.o (ldP q sz22 ag22 q)<|.nil0)<|.block<|.seq<|.reg0 q (.o (eqI q q)<|.o (asV q)<|.nil0) ?_
    by_cases c3 : a0.Tag = 1
    · rw [if_pos c3] at h
      refine .condT q (bt c3)<|.seq ?_
      obtain ⟨t6_1, g6_1, h⟩ := h
      refine .reg0 q (.o (ldG q sz33 ag33 q)<|.c q go65 q q q (r05_plain.D g6_1)<|.a q<|.nil0) ?_
      replace h := h.symm
      subst h
      refine .kf [(4, bo t6_1)] q q ?_
      exact .ret q
    · rw [if_neg c3] at h
      refine .condF q (bn c3)<|.seq<|.reg0 q (.o (eqI q q)<|.o (asV q)<|.nil0) ?_
      by_cases c4 : a0.Tag = 2
      · rw [if_pos c4] at h
        refine .condT q (bt c4)<|.seq ?_
        obtain ⟨t8_1, g8_1, h⟩ := h
        refine .reg0 (e1 := listEnv [(4, bo (t8_1 && ((decide (a1.Cost ≥ 0)) && (decide (a1.Cost ≤ a0.Dim)))))]) (H1 := [⟨3, [(TSpace.lit a0)], 0, none⟩, ⟨6, [(TWeight.lit a1)], 0, none⟩]) q ?_ ?_
        · refine .o (ldG q sz33 ag33 q)<|.c q go65 q q q (r05_plain.D g8_1)<|.m q<|?_
          by_cases c5 : t8_1 = true
          · refine .g q c5 (faP fa33_1 q)<|.g q c5 (ldP q sz3 ag3 q)<|.g q c5 (geI q q)<|.o (pkTV q c5 q)<|.m q<|?_
            by_cases c6 : a1.Cost ≥ 0
            · exact (.g q (dt c6) (faP fa33_1 q)<|.g q (dt c6) (ldP q sz3 ag3 q)<|.g q (dt c6) (faP fa25_1 q)<|.g q (dt c6) (ldP q sz3 ag3 q)<|.g q (dt c6) (leI q q)<|.o (pkTV q (dt c6) q)<|.a q<|.nilL _ ⟨cB q (mAndT c5 (mAndT (dt c6) q)), trivial⟩)
            · exact (.n q (df c6)<|.n q (df c6)<|.n q (df c6)<|.n q (df c6)<|.n q (df c6)<|.o (pkFV q (df c6) q)<|.a q<|.nilL _ ⟨cB q (mAndT c5 (mAndF (df c6))), trivial⟩)
          · exact (.n q (nb c5)<|.n q (nb c5)<|.n q (nb c5)<|.o (pkFV q (nb c5) q)<|.m q<|.n q q<|.n q q<|.n q q<|.n q q<|.n q q<|.o (pkFV q q q)<|.a q<|.nilL _ ⟨cB q (mAndF (nb c5)), trivial⟩)
        replace h := h.symm
        subst h
        refine .kf [(4, bo (t8_1 && ((decide (a1.Cost ≥ 0)) && (decide (a1.Cost ≤ a0.Dim)))))] q q ?_
        exact .ret q
      · rw [if_neg c4] at h
        refine .condF q (bn c4)<|.seq<|.reg0 q (.o (eqI q q)<|.o (asV q)<|.nil0) ?_
        by_cases c7 : a0.Tag = 3
        · rw [if_pos c7] at h
          refine .condT q (bt c7)<|.seq ?_
          obtain ⟨t10_1, g10_1, h⟩ := h
          obtain ⟨t10_7, g10_7, h⟩ := h
          refine .reg0 (e1 := listEnv [(4, bo (t10_1 && (t10_7 == 0)))]) (H1 := [⟨3, [(TSpace.lit a0)], 0, none⟩, ⟨6, [(TWeight.lit a1)], 0, none⟩]) q ?_ ?_
          · refine .o (ldG q sz33 ag33 q)<|.c q go65 q q q (r05_plain.D g10_1)<|.m q<|?_
            by_cases c8 : t10_1 = true
            · exact (.g q c8 (faP fa25_1 q)<|.g q c8 (ldP q sz3 ag3 q)<|.g q c8 (faP fa33_2 q)<|.g q c8 (ldG q sz29 ag29 q)<|.callI (gT q q q c8) (callee_of q go66 q) (.pure q q (r03_Check.D (g10_7 c8)))<|.g q c8 (eqI q q)<|.o (pkTV q c8 q)<|.a q<|.nilL _ ⟨cB q (mAndT c8 q), trivial⟩)
            · exact (.n q (nb c8)<|.n q (nb c8)<|.n q (nb c8)<|.n q (nb c8)<|.n q (nb c8)<|.n q (nb c8)<|.o (pkFV q (nb c8) q)<|.a q<|.nilL _ ⟨cB q (mAndF (nb c8)), trivial⟩)
          replace h := h.symm
          subst h
          refine .kf [(4, bo (t10_1 && (t10_7 == 0)))] q q ?_
          exact .ret q
        · rw [if_neg c7] at h
          refine .condF q (bn c7)<|.seq<|.reg0 q (.o (eqI q q)<|.o (asV q)<|.nil0) ?_
          by_cases c9 : a0.Tag = 4
          · rw [if_pos c9] at h
            refine .condT q (bt c9)<|.seq<|.seq ?_
            obtain ⟨t12_1, g12_1, h⟩ := h
            refine .reg0 (e1 := listEnv [(2, .ptr 0 1 3 0 0), (3, .ptr 1 1 6 0 0), (61, bo ((!t12_1) || ((a1.Cells.length : Int) != a0.Dim)))]) (H1 := [⟨3, [(TSpace.lit a0)], 0, none⟩, ⟨6, [(TWeight.lit a1)], 0, none⟩]) q ?_ ?_
            · refine .o (ldG q sz33 ag33 q)<|.c q go65 q q q (r05_plain.D g12_1)<|.o (notB q)<|.m q<|?_
              by_cases c10 : t12_1 = true
              · exact (.g q (bnotF c10) (faP fa33_3 q)<|.g q (bnotF c10) (ldP q sz30 ag30 q)<|.g q (bnotF c10) (lnR (l := a1.Cells) sl30 q)<|.g q (bnotF c10) (faP fa25_1 q)<|.g q (bnotF c10) (ldP q sz3 ag3 q)<|.g q (bnotF c10) (neI q q)<|.o (pkFV q (bnotF c10) q)<|.nilL _ ⟨.ptr q, .ptr q, cB q (mOrF (bnotF c10) q), trivial⟩)
              · exact (.n q (bnotT (nb c10))<|.n q (bnotT (nb c10))<|.n q (bnotT (nb c10))<|.n q (bnotT (nb c10))<|.n q (bnotT (nb c10))<|.n q (bnotT (nb c10))<|.o (pkTV q (bnotT (nb c10)) q)<|.nilL _ ⟨.ptr q, .ptr q, cB q (mOrT (bnotT (nb c10))), trivial⟩)
            by_cases c11 : ((!t12_1) || ((a1.Cells.length : Int) != a0.Dim)) = true
            · rw [if_pos c11] at h
              refine .condT q c11<|.seq<|.reg0 q (.o (asV q)<|.nil0) ?_
              replace h := h.symm
              subst h
              refine .kf [(4, bo false)] q q ?_
              exact .ret q
            · rw [if_neg c11] at h
              refine .condF q (nb c11)<|.skip<|.seq<|.seq<|.reg0 q (.o (asV q)<|.nil0)<|.block<|.keepL [0, 1] [(2, .ptr 0 1 3 0 0), (3, .ptr 1 1 6 0 0), (5, i6 0)] [⟨3, [(TSpace.lit a0)], 0, none⟩, ⟨6, [(TWeight.lit a1)], 0, none⟩] (by decide) (by decide) ⟨.ptr q, .ptr q, .free q q, trivial⟩ ⟨⟨_, q, bcBox (all2_free q)⟩, ⟨_, q, bcBox (all2_free q)⟩, trivial⟩ ?_
              obtain ⟨o1, hL1, h⟩ := h
              refine .loopB (r05_is.b1 a0 a1) (fun x1 => listEnv [(2, .ptr 0 1 3 0 0), (3, .ptr 1 1 6 0 0), (5, i6 x1)]) (fun x1 => [⟨3, [(TSpace.lit a0)], 0, none⟩, ⟨6, [(TWeight.lit a1)], 0, none⟩]) (fun _ => listEnv []) (fun _ => []) hL1 (fun r_ => r = r_) ?_ ?_ ?_
              · rintro ⟨⟩ rfl
                try dsimp only [Fin.on] at h
                refine .seq<|.reg0 q (.o (asV q)<|.nil0) ?_
                replace h := h.symm
                subst h
                refine .kf [(4, bo true)] q q ?_
                exact .ret q
              · rintro r_ rfl
                exact h
              · rintro x1 z1 h hn1 hx1 hr1
                dsimp only [r05_is.b1] at h
                refine .seq<|.seq<|.reg0 q (.o (mvV q)<|.o (faP fa33_3 q)<|.o (ldP q sz30 ag30 q)<|.o (lnR (l := a1.Cells) sl30 q)<|.o (ltI q q)<|.nil0) ?_
                by_cases c16 : x1 < (a1.Cells.length : Int)
                · rw [if_pos c16] at h
                  refine .condT q (dt c16)<|.skip<|.seq<|.block<|.seq ?_
                  obtain ⟨g24_5, h⟩ := h
                  obtain ⟨t24_7, g24_7, h⟩ := h
                  refine .reg1 (e1 := listEnv [(2, .ptr 0 1 3 0 0), (3, .ptr 1 1 6 0 0), (5, i6 x1), (77, bo (!t24_7))]) (H1 := [⟨3, [(TSpace.lit a0)], 0, none⟩, ⟨6, [(TWeight.lit a1)], 0, none⟩]) q ?_ ?_
                  · exact .drawM [(8, 77, bo (!t24_7)), (7, 76, bo t24_7), (6, 75, .agg (TCell.lit (rdl a1.Cells x1))), (5, 74, .cptr (TCell.lit (rdl a1.Cells x1)) 0), (4, 73, i6 x1), (3, 72, .rows (a1.Cells.map TCell.cells)), (2, 71, .ptr 1 1 6 0 4), (1, 70, i6 a0.Dim), (0, 69, .ptr 0 1 3 0 1)] [] [[], [0], [], [2], [], [3, 2, 4], [5, 3, 2, 4], [1, 0, 6, 5, 3, 2, 4], [7, 1, 0, 6, 5, 3, 2, 4]] (by rfl) (by rfl) (by rfl) (by exact ⟨oP (fun _ => faP fa25_1 q) q, oP (fun _ => ldP q sz3 ag3 q) q, oP (fun _ => faP fa33_3 q) q, oP (fun _ => ldP q sz30 ag30 q) q, oP (fun _ => mvV q) q, oP (fun _ => ixR (l := a1.Cells) (lit := TCell.lit) sl30 q q (fun _ => q) g24_5.1 g24_5.2) q, oP (fun _ => ldCG q sz74 ag74 q) q, fun S hS hD hn => .oneI hS hD hn q q (callee_of q go67 q) (.pure q q (r05_cell.D g24_7)) q q q, oP (fun _ => notB q) q, trivial⟩) _ (by exact ⟨.ptr q, .ptr q, .free q q, .free q q, trivial⟩) (by rfl)
                  by_cases c17 : t24_7 = true
                  · rw [if_pos c17] at h
                    refine .condF q (bnotF c17)<|.skip<|.inBlock<|.reg0 q (.o (mvV q)<|.o (addI q q)<|.o (asV q)<|.nil0)<|.keepL [0, 1] [(2, .ptr 0 1 3 0 0), (3, .ptr 1 1 6 0 0), (5, i6 (IntKind.i64.wrap (x1 + 1)))] [⟨3, [(TSpace.lit a0)], 0, none⟩, ⟨6, [(TWeight.lit a1)], 0, none⟩] (by decide) (by decide) ⟨.ptr q, .ptr q, .free q q, trivial⟩ ⟨⟨_, q, bcBox (all2_free q)⟩, ⟨_, q, bcBox (all2_free q)⟩, trivial⟩ ?_
                    exact hn1 _ h
                  · rw [if_neg c17] at h
                    refine .condT q (bnotT (nb c17))<|.seq<|.reg0 q (.o (asV q)<|.nil0) ?_
                    have q3 := hr1 _ h
                    replace q3 := q3.symm
                    subst q3
                    refine .kf [(4, bo false)] q q ?_
                    exact .ret q
                · rw [if_neg c16] at h
                  refine .condF q (df c16)<|.exit q<|.keepL [] [] [] (by decide) (by decide) trivial trivial ?_
                  exact hx1 _ h
          · rw [if_neg c9] at h
            refine .condF q (bn c9)<|.skip<|.inBlock<|.seq ?_
            obtain ⟨t28_1, g28_1, h⟩ := h
            obtain ⟨g28_11, h⟩ := h
            obtain ⟨g28_15, h⟩ := h
            obtain ⟨t28_17, g28_17, h⟩ := h
            obtain ⟨g28_22, h⟩ := h
            obtain ⟨g28_26, h⟩ := h
            obtain ⟨t28_28, g28_28, h⟩ := h
            refine .reg1 (e1 := listEnv [(4, bo (t28_1 && (((a1.Parts.length : Int) == 2) && (t28_17 && t28_28))))]) (H1 := [⟨3, [(TSpace.lit a0)], 0, none⟩, ⟨6, [(TWeight.lit a1)], 0, none⟩]) q ?_ ?_
            · by_cases c18 : t28_1 = true
              · by_cases c19 : (a1.Parts.length : Int) = 2
                · by_cases c20 : t28_17 = true
                  · exact .drawM [(30, 4, bo t28_28), (29, 107, bo t28_28), (28, 106, bo t28_28), (27, 105, .agg (TWeight.lit (rdl a1.Parts 1))), (26, 104, .cptr (TWeight.lit (rdl a1.Parts 1)) 0), (25, 103, .rows (a1.Parts.map TWeight.cells)), (24, 102, .ptr 1 1 6 0 5), (23, 101, .agg (TSpace.lit (rdl a0.Parts 1))), (22, 100, .cptr (TSpace.lit (rdl a0.Parts 1)) 0), (21, 99, .rows (a0.Parts.map TSpace.cells)), (20, 98, .ptr 0 1 3 0 2), (19, 97, bo t28_17), (18, 96, bo t28_17), (17, 95, bo t28_17), (16, 94, .agg (TWeight.lit (rdl a1.Parts 0))), (15, 93, .cptr (TWeight.lit (rdl a1.Parts 0)) 0), (14, 92, .rows (a1.Parts.map TWeight.cells)), (13, 91, .ptr 1 1 6 0 5), (12, 90, .agg (TSpace.lit (rdl a0.Parts 0))), (11, 89, .cptr (TSpace.lit (rdl a0.Parts 0)) 0), (10, 88, .rows (a0.Parts.map TSpace.cells)), (9, 87, .ptr 0 1 3 0 2), (8, 86, bo ((a1.Parts.length : Int) == 2)), (7, 85, bo ((a1.Parts.length : Int) == 2)), (6, 84, bo ((a1.Parts.length : Int) == 2)), (5, 83, i6 (a1.Parts.length : Int)), (4, 82, .rows (a1.Parts.map TWeight.cells)), (3, 81, .ptr 1 1 6 0 5), (2, 80, bo t28_1), (1, 79, bo t28_1), (0, 78, .agg (TWeight.lit a1))] [] GD_A1 (by rfl) (by rfl) (by rfl) (by exact ⟨oP (fun _ => ldG q sz33 ag33 q) q, fun S hS hD hn => .oneI hS hD hn q q (callee_of q go65 q) (.pure q q (r05_plain.D g28_1)) q q q, oP (fun _ => mvV q) q, oG q (fun _ => q) c18 (fun _ => faP fa33_4 q) q, oG q (fun _ => q) c18 (fun _ => ldP q sz31 ag31 q) q, oG q (fun _ => q) c18 (fun _ => lnR (l := a1.Parts) sl31 q) q, oG q (fun _ => q) c18 (fun _ => eqI q q) q, oP (fun _ => pkTV q c18 q) q, oP (fun _ => mvV q) q, oG q (fun _ => q) (bt c19) (fun _ => faP fa25_2 q) q, oG q (fun _ => q) (bt c19) (fun _ => ldP q sz23 ag23 q) q, oG q (fun _ => q) (bt c19) (fun _ => ixR (l := a0.Parts) (lit := TSpace.lit) sl23 q q TSpace.cells_lit (g28_11 c18 c19).1 (g28_11 c18 c19).2) q, oG q (fun _ => q) (bt c19) (fun _ => ldCG q sz25 ag25 q) q, oG q (fun _ => q) (bt c19) (fun _ => faP fa33_4 q) q, oG q (fun _ => q) (bt c19) (fun _ => ldP q sz31 ag31 q) q, oG q (fun _ => q) (bt c19) (fun _ => ixR (l := a1.Parts) (lit := TWeight.lit) sl31 q q TWeight.cells_lit (g28_15 c18 c19).1 (g28_15 c18 c19).2) q, oG q (fun _ => q) (bt c19) (fun _ => ldCG q sz33 ag33 q) q, fun S hS hD hn => .oneI hS hD hn (gT q q q (bt c19)) q (callee_of q go39 q) (.pure q q (hs39 _ _ _ (g28_17 c18 c19))) q q q, oP (fun _ => pkTV q (bt c19) q) q, oP (fun _ => mvV q) q, oG q (fun _ => q) c20 (fun _ => faP fa25_2 q) q, oG q (fun _ => q) c20 (fun _ => ldP q sz23 ag23 q) q, oG q (fun _ => q) c20 (fun _ => ixR (l := a0.Parts) (lit := TSpace.lit) sl23 q q TSpace.cells_lit (g28_22 c18 c19 c20).1 (g28_22 c18 c19 c20).2) q, oG q (fun _ => q) c20 (fun _ => ldCG q sz25 ag25 q) q, oG q (fun _ => q) c20 (fun _ => faP fa33_4 q) q, oG q (fun _ => q) c20 (fun _ => ldP q sz31 ag31 q) q, oG q (fun _ => q) c20 (fun _ => ixR (l := a1.Parts) (lit := TWeight.lit) sl31 q q TWeight.cells_lit (g28_26 c18 c19 c20).1 (g28_26 c18 c19 c20).2) q, oG q (fun _ => q) c20 (fun _ => ldCG q sz33 ag33 q) q, fun S hS hD hn => .oneI hS hD hn (gT q q q c20) q (callee_of q go39 q) (.pure q q (hs39 _ _ _ (g28_28 c18 c19 c20))) q q q, oP (fun _ => pkTV q c20 q) q, oP (fun _ => asV q) q, trivial⟩) _ (by exact ⟨cB q (mAndT c18 (mAndT (bt c19) (mAndT c20 q))), trivial⟩) (by rfl)
                  · exact .drawM [(30, 4, bo false), (29, 107, bo false), (28, 106, und), (27, 105, und), (26, 104, und), (25, 103, und), (24, 102, und), (23, 101, und), (22, 100, und), (21, 99, und), (20, 98, und), (19, 97, bo t28_17), (18, 96, bo t28_17), (17, 95, bo t28_17), (16, 94, .agg (TWeight.lit (rdl a1.Parts 0))), (15, 93, .cptr (TWeight.lit (rdl a1.Parts 0)) 0), (14, 92, .rows (a1.Parts.map TWeight.cells)), (13, 91, .ptr 1 1 6 0 5), (12, 90, .agg (TSpace.lit (rdl a0.Parts 0))), (11, 89, .cptr (TSpace.lit (rdl a0.Parts 0)) 0), (10, 88, .rows (a0.Parts.map TSpace.cells)), (9, 87, .ptr 0 1 3 0 2), (8, 86, bo ((a1.Parts.length : Int) == 2)), (7, 85, bo ((a1.Parts.length : Int) == 2)), (6, 84, bo ((a1.Parts.length : Int) == 2)), (5, 83, i6 (a1.Parts.length : Int)), (4, 82, .rows (a1.Parts.map TWeight.cells)), (3, 81, .ptr 1 1 6 0 5), (2, 80, bo t28_1), (1, 79, bo t28_1), (0, 78, .agg (TWeight.lit a1))] [] GD_A1 (by rfl) (by rfl) (by rfl) (by exact ⟨oP (fun _ => ldG q sz33 ag33 q) q, fun S hS hD hn => .oneI hS hD hn q q (callee_of q go65 q) (.pure q q (r05_plain.D g28_1)) q q q, oP (fun _ => mvV q) q, oG q (fun _ => q) c18 (fun _ => faP fa33_4 q) q, oG q (fun _ => q) c18 (fun _ => ldP q sz31 ag31 q) q, oG q (fun _ => q) c18 (fun _ => lnR (l := a1.Parts) sl31 q) q, oG q (fun _ => q) c18 (fun _ => eqI q q) q, oP (fun _ => pkTV q c18 q) q, oP (fun _ => mvV q) q, oG q (fun _ => q) (bt c19) (fun _ => faP fa25_2 q) q, oG q (fun _ => q) (bt c19) (fun _ => ldP q sz23 ag23 q) q, oG q (fun _ => q) (bt c19) (fun _ => ixR (l := a0.Parts) (lit := TSpace.lit) sl23 q q TSpace.cells_lit (g28_11 c18 c19).1 (g28_11 c18 c19).2) q, oG q (fun _ => q) (bt c19) (fun _ => ldCG q sz25 ag25 q) q, oG q (fun _ => q) (bt c19) (fun _ => faP fa33_4 q) q, oG q (fun _ => q) (bt c19) (fun _ => ldP q sz31 ag31 q) q, oG q (fun _ => q) (bt c19) (fun _ => ixR (l := a1.Parts) (lit := TWeight.lit) sl31 q q TWeight.cells_lit (g28_15 c18 c19).1 (g28_15 c18 c19).2) q, oG q (fun _ => q) (bt c19) (fun _ => ldCG q sz33 ag33 q) q, fun S hS hD hn => .oneI hS hD hn (gT q q q (bt c19)) q (callee_of q go39 q) (.pure q q (hs39 _ _ _ (g28_17 c18 c19))) q q q, oP (fun _ => pkTV q (bt c19) q) q, oP (fun _ => mvV q) q, oN q (fun _ => q) (nb c20) q, oN q (fun _ => q) (nb c20) q, oN q (fun _ => q) (nb c20) q, oN q (fun _ => q) (nb c20) q, oN q (fun _ => q) (nb c20) q, oN q (fun _ => q) (nb c20) q, oN q (fun _ => q) (nb c20) q, oN q (fun _ => q) (nb c20) q, oN q (fun _ => q) (nb c20) q, oP (fun _ => pkFV q (nb c20) q) q, oP (fun _ => asV q) q, trivial⟩) _ (by exact ⟨cB q (mAndT c18 (mAndT (bt c19) (mAndF (nb c20)))), trivial⟩) (by rfl)
                · exact .drawM [(30, 4, bo false), (29, 107, bo false), (28, 106, und), (27, 105, und), (26, 104, und), (25, 103, und), (24, 102, und), (23, 101, und), (22, 100, und), (21, 99, und), (20, 98, und), (19, 97, bo false), (18, 96, bo false), (17, 95, und), (16, 94, und), (15, 93, und), (14, 92, und), (13, 91, und), (12, 90, und), (11, 89, und), (10, 88, und), (9, 87, und), (8, 86, bo ((a1.Parts.length : Int) == 2)), (7, 85, bo ((a1.Parts.length : Int) == 2)), (6, 84, bo ((a1.Parts.length : Int) == 2)), (5, 83, i6 (a1.Parts.length : Int)), (4, 82, .rows (a1.Parts.map TWeight.cells)), (3, 81, .ptr 1 1 6 0 5), (2, 80, bo t28_1), (1, 79, bo t28_1), (0, 78, .agg (TWeight.lit a1))] [] GD_A1 (by rfl) (by rfl) (by rfl) (by exact ⟨oP (fun _ => ldG q sz33 ag33 q) q, fun S hS hD hn => .oneI hS hD hn q q (callee_of q go65 q) (.pure q q (r05_plain.D g28_1)) q q q, oP (fun _ => mvV q) q, oG q (fun _ => q) c18 (fun _ => faP fa33_4 q) q, oG q (fun _ => q) c18 (fun _ => ldP q sz31 ag31 q) q, oG q (fun _ => q) c18 (fun _ => lnR (l := a1.Parts) sl31 q) q, oG q (fun _ => q) c18 (fun _ => eqI q q) q, oP (fun _ => pkTV q c18 q) q, oP (fun _ => mvV q) q, oN q (fun _ => q) (bn c19) q, oN q (fun _ => q) (bn c19) q, oN q (fun _ => q) (bn c19) q, oN q (fun _ => q) (bn c19) q, oN q (fun _ => q) (bn c19) q, oN q (fun _ => q) (bn c19) q, oN q (fun _ => q) (bn c19) q, oN q (fun _ => q) (bn c19) q, oN q (fun _ => q) (bn c19) q, oP (fun _ => pkFV q (bn c19) q) q, oP (fun _ => mvV q) q, oN q (fun _ => q) q q, oN q (fun _ => q) q q, oN q (fun _ => q) q q, oN q (fun _ => q) q q, oN q (fun _ => q) q q, oN q (fun _ => q) q q, oN q (fun _ => q) q q, oN q (fun _ => q) q q, oN q (fun _ => q) q q, oP (fun _ => pkFV q q q) q, oP (fun _ => asV q) q, trivial⟩) _ (by exact ⟨cB q (mAndT c18 (mAndF (bn c19))), trivial⟩) (by rfl)
              · exact .drawM [(30, 4, bo false), (29, 107, bo false), (28, 106, und), (27, 105, und), (26, 104, und), (25, 103, und), (24, 102, und), (23, 101, und), (22, 100, und), (21, 99, und), (20, 98, und), (19, 97, bo false), (18, 96, bo false), (17, 95, und), (16, 94, und), (15, 93, und), (14, 92, und), (13, 91, und), (12, 90, und), (11, 89, und), (10, 88, und), (9, 87, und), (8, 86, bo false), (7, 85, bo false), (6, 84, und), (5, 83, und), (4, 82, und), (3, 81, und), (2, 80, bo t28_1), (1, 79, bo t28_1), (0, 78, .agg (TWeight.lit a1))] [] GD_A1 (by rfl) (by rfl) (by rfl) (by exact ⟨oP (fun _ => ldG q sz33 ag33 q) q, fun S hS hD hn => .oneI hS hD hn q q (callee_of q go65 q) (.pure q q (r05_plain.D g28_1)) q q q, oP (fun _ => mvV q) q, oN q (fun _ => q) (nb c18) q, oN q (fun _ => q) (nb c18) q, oN q (fun _ => q) (nb c18) q, oN q (fun _ => q) (nb c18) q, oP (fun _ => pkFV q (nb c18) q) q, oP (fun _ => mvV q) q, oN q (fun _ => q) q q, oN q (fun _ => q) q q, oN q (fun _ => q) q q, oN q (fun _ => q) q q, oN q (fun _ => q) q q, oN q (fun _ => q) q q, oN q (fun _ => q) q q, oN q (fun _ => q) q q, oN q (fun _ => q) q q, oP (fun _ => pkFV q q q) q, oP (fun _ => mvV q) q, oN q (fun _ => q) q q, oN q (fun _ => q) q q, oN q (fun _ => q) q q, oN q (fun _ => q) q q, oN q (fun _ => q) q q, oN q (fun _ => q) q q, oN q (fun _ => q) q q, oN q (fun _ => q) q q, oN q (fun _ => q) q q, oP (fun _ => pkFV q q q) q, oP (fun _ => asV q) q, trivial⟩) _ (by exact ⟨cB q (mAndF (nb c18)), trivial⟩) (by rfl)
            replace h := h.symm
            subst h
            refine .kf [(4, bo (t28_1 && (((a1.Parts.length : Int) == 2) && (t28_17 && t28_28))))] q q ?_
            exact .ret q
def r05_is.fN : Nat → TSpace → TWeight → Bool → Prop
  | 0 => fun _ _ _ => False
  | n + 1 => r05_is.step (r05_is.fN n)
theorem r05_is.ND : ∀ (n : Nat) {a0 : TSpace} {a1 : TWeight} {r : Bool} (h : r05_is.fN n a0 a1 r), D Tryz.prog X (.callH 39 [.agg (TSpace.lit a0), .agg (TWeight.lit a1)] [] (.val (.bool r)) [])
  | 0, _, _, _, h => h.elim
  | n + 1, _, _, _, h => r05_is.stepD (fun _ _ _ h => r05_is.ND n h) h
def r05_is.f (a0 : TSpace) (a1 : TWeight) (r : Bool) : Prop := ∃ n, r05_is.fN n a0 a1 r
theorem r05_is.D {a0 a1 r} (h : r05_is.f a0 a1 r) : D Tryz.prog X (.callH 39 [.agg (TSpace.lit a0), .agg (TWeight.lit a1)] [] (.val (.bool r)) []) := by obtain ⟨n, h⟩ := h; exact r05_is.ND n h
def r05_Check.f (a0 : TSpace) (a1 : TWeight) (r : Int) : Prop :=
  ∃ t2_1 : Int, (r05_Space.f a0 t2_1) ∧ if t2_1 = 0 then (∃ t4_2 : Bool, (r05_is.f a0 a1 t4_2) ∧ if t4_2 = true then (r = 0) else (r = 51)) else (r = t2_1)
theorem r05_Check.D {a0 a1 r} (h : r05_Check.f a0 a1 r) : D Tryz.prog X (.callH 11 [.agg (TSpace.lit a0), .agg (TWeight.lit a1)] [] (.val (.int .i64 r)) []) := by
  unfold r05_Check.f at h
  refine .enter 15 0 fn11 q q q<|.seq<|.room 0<|.room 0<|.reg0 q (.o (bxP (s := 3) (cs := (TSpace.lit a0)) q ⟨q, by decide, q⟩ q)<|.op 1 q (bxP (s := 6) (cs := (TWeight.lit a1)) q ⟨q, by decide, q⟩ q)<|.o (asV q)<|.nil0)<|.seq ?_
  obtain ⟨t2_1, g2_1, h⟩ := h
  refine .reg0 q (.o (ldG q sz25 ag25 q)<|.c q go30 q q q (r05_Space.D g2_1)<|.a q<|.nil0)<|.seq<|.seq<|.reg0 q (.o (mvV q)<|.o (neI q q)<|.nil0) ?_
  by_cases c1 : t2_1 = 0
  · rw [if_pos c1] at h
    refine .condF q (nf c1)<|.skip<|.seq<|.seq ?_
    obtain ⟨t4_2, g4_2, h⟩ := h
    refine .reg0 q (.o (ldG q sz25 ag25 q)<|.o (ldG q sz33 ag33 q)<|.c q go39 q q q (r05_is.D g4_2)<|.o (notB q)<|.nil0) ?_
    by_cases c2 : t4_2 = true
    · rw [if_pos c2] at h
      refine .condF q (bnotF c2)<|.skip<|.seq<|.reg0 q (.o (asV q)<|.nil0) ?_
      replace h := h.symm
      subst h
      refine .kf [(4, i6 0)] q q ?_
      exact .ret q
    · rw [if_neg c2] at h
      refine .condT q (bnotT (nb c2))<|.seq<|.reg0 q (.o (asV q)<|.nil0) ?_
      replace h := h.symm
      subst h
      refine .kf [(4, i6 51)] q q ?_
      exact .ret q
  · rw [if_neg c1] at h
    refine .condT q (nt c1)<|.seq<|.reg0 q (.o (mvV q)<|.o (asV q)<|.nil0) ?_
    replace h := h.symm
    subst h
    refine .kf [(4, i6 t2_1)] q q ?_
    exact .ret q
def l05_alive.f (r : Bool) : Prop := r = true
theorem l05_alive.D {r} (h : l05_alive.f r) : D Tryz.prog X (.callH 12 [] [] (.val (.bool r)) []) := by
  rw [show r = true from h]
  exact alive_true
def slices_IndexFunc_Space.b1 (a0 : List TSpace) (a1 : TSpace → Bool → Prop) : Int → Rnd Int Unit Int → Prop := fun x1 z1 => if x1 < (a0.length : Int) then (((InR x1 a0.length)) ∧ ∃ t15_5 : Bool, (a1 (rdl a0 x1) t15_5) ∧ if t15_5 = true then (z1 = .ret x1) else (z1 = .next (IntKind.i64.wrap (x1 + 1)))) else (z1 = .exit ())
def slices_IndexFunc_Space.f (a0 : List TSpace) (a1 : TSpace → Bool → Prop) (r : Int) : Prop :=
  ∃ o1 : Fin Unit Int, Loop (slices_IndexFunc_Space.b1 a0 a1) 0 o1 ∧ o1.on (fun _ => r = (-1)) (fun r_ => r = r_)
theorem slices_IndexFunc_Space.D {a0 : List TSpace} {a1 : TSpace → Bool → Prop} {r : Int} {c1_ : FuncId} {k1_ : List PV} (hg1_ : isGo Tryz.prog c1_ = true) (hk1_ : PV.free deep (.clo c1_ k1_) = true) (hka1_ : k1_.all (PV.free deep) = true) (hq1_ : ∀ x0_ y_, a1 x0_ y_ → D Tryz.prog X (.callH c1_ ([.agg (TSpace.lit x0_)] ++ k1_) [] (.val (.bool y_)) [])) (h : slices_IndexFunc_Space.f a0 a1 r) : D Tryz.prog X (.callH 90 [.rows (a0.map TSpace.cells), .clo c1_ k1_] [] (.val (.int .i64 r)) []) := by
  unfold slices_IndexFunc_Space.f at h
  refine .enter 19 0 fn90 q q q<|.seq<|.reg0 q (.o (asV q)<|.nil0)<|.seq<|.seq<|.reg0 q (.o (mvR q)<|.o (lnR (l := a0) sl23 q)<|.o (mvV q)<|.nil0)<|.block<|.keepL [] [(0, .rows (a0.map TSpace.cells)), (1, .clo c1_ k1_), (7, i6 (a0.length : Int)), (8, i6 0)] [] (by decide) (by decide) ⟨.free q q, .free q hk1_, .free q q, .free q q, trivial⟩ trivial ?_
  obtain ⟨o1, hL1, h⟩ := h
  refine .loopB (slices_IndexFunc_Space.b1 a0 a1) (fun x1 => listEnv [(0, .rows (a0.map TSpace.cells)), (1, .clo c1_ k1_), (7, i6 (a0.length : Int)), (8, i6 x1)]) (fun x1 => []) (fun _ => listEnv []) (fun _ => []) hL1 (fun r_ => r = r_) ?_ ?_ ?_
  · rintro ⟨⟩ rfl
    try dsimp only [Fin.on] at h
    refine .seq<|.reg0 q (.o (asV q)<|.nil0) ?_
    replace h := h.symm
    subst h
    refine .kf [(4, i6 (-1))] q q ?_
    exact .ret q
  · rintro r_ rfl
    exact h
  · rintro x1 z1 h hn1 hx1 hr1
    dsimp only [slices_IndexFunc_Space.b1] at h
    refine .seq<|.reg0 q (.o (ltI q q)<|.nil0)<|.seq ?_
    by_cases c5 : x1 < (a0.length : Int)
    · rw [if_pos c5] at h
      refine .condT q (dt c5)<|.skip<|.seq<|.block<|.seq<|.reg0 q (.o (mvV q)<|.o (asV q)<|.nil0)<|.seq ?_
      obtain ⟨g15_3, h⟩ := h
      obtain ⟨t15_5, g15_5, h⟩ := h
      refine .reg0 q (.o (mvF q)<|.o (mvR q)<|.m q<|.o (ixR (l := a0) (lit := TSpace.lit) sl23 q q TSpace.cells_lit g15_3.1 g15_3.2)<|.o (ldCG q sz25 ag25 q)<|.callI q (callee_of q hg1_ q) (.pure (allCons q hka1_) q (hq1_ _ _ g15_5))<|.nil0) ?_
      by_cases c6 : t15_5 = true
      · rw [if_pos c6] at h
        refine .condT q c6<|.seq<|.reg0 q (.o (mvV q)<|.o (asV q)<|.nil0) ?_
        have q3 := hr1 _ h
        replace q3 := q3.symm
        subst q3
        refine .kf [(4, i6 x1)] q q ?_
        exact .ret q
      · rw [if_neg c6] at h
        refine .condF q (nb c6)<|.skip<|.inBlock<|.reg0 q (.o (addI q q)<|.o (mvV q)<|.nil0)<|.k [(0, .rows (a0.map TSpace.cells)), (1, .clo c1_ k1_), (7, i6 (a0.length : Int)), (8, i6 (IntKind.i64.wrap (x1 + 1)))] ⟨.free q q, .free q hk1_, .free q q, .free q q, trivial⟩ ?_
        exact hn1 _ h
    · rw [if_neg c5] at h
      refine .condF q (df c5)<|.exit q<|.keepL [] [] [] (by decide) (by decide) trivial trivial ?_
      exact hx1 _ h
def slices_ContainsFunc_Space.f (a0 : List TSpace) (a1 : TSpace → Bool → Prop) (r : Bool) : Prop :=
  ∃ t2_2 : Int, (slices_IndexFunc_Space.f a0 a1 t2_2) ∧ r = (decide (t2_2 ≥ 0))
theorem slices_ContainsFunc_Space.D {a0 : List TSpace} {a1 : TSpace → Bool → Prop} {r : Bool} {c1_ : FuncId} {k1_ : List PV} (hg1_ : isGo Tryz.prog c1_ = true) (hk1_ : PV.free deep (.clo c1_ k1_) = true) (hka1_ : k1_.all (PV.free deep) = true) (hq1_ : ∀ x0_ y_, a1 x0_ y_ → D Tryz.prog X (.callH c1_ ([.agg (TSpace.lit x0_)] ++ k1_) [] (.val (.bool y_)) [])) (h : slices_ContainsFunc_Space.f a0 a1 r) : D Tryz.prog X (.callH 54 [.rows (a0.map TSpace.cells), .clo c1_ k1_] [] (.val (.bool r)) []) := by
  unfold slices_ContainsFunc_Space.f at h
  refine .enter 9 0 fn54 q q q<|.seq<|.reg0 q (.o (asV q)<|.nil0)<|.seq ?_
  obtain ⟨t2_2, g2_2, h⟩ := h
  refine .reg0 q (.o (mvR q)<|.o (mvF q)<|.callI q (callee_of q go90 q) (.pure (allCons q (allCons hk1_ q)) q (slices_IndexFunc_Space.D hg1_ hk1_ hka1_ hq1_ g2_2))<|.o (geI q q)<|.a q<|.nil0) ?_
  replace h := h.symm
  subst h
  refine .kf [(4, bo (decide (t2_2 ≥ 0)))] q q ?_
  exact .ret q
def weight_Space_1.f (self29 : TSpace → Int → Prop) (a0 : TSpace) (r : Bool) : Prop :=
  ∃ t2_5 : Int, (¬ (a0.Tag = 5) → self29 a0 t2_5) ∧ r = ((a0.Tag == 5) || (t2_5 != 0))
theorem weight_Space_1.D {self29 : TSpace → Int → Prop} {a0 : TSpace} (hs29 : ∀ z0_ r_, self29 z0_ r_ → D Tryz.prog X (.callH 29 [.agg (TSpace.lit z0_)] [] (.val (.int .i64 r_)) [])) {r : Bool} (h : weight_Space_1.f self29 a0 r) : D Tryz.prog X (.callH 55 [.agg (TSpace.lit a0)] [] (.val (.bool r)) []) := by
  unfold weight_Space_1.f at h
  refine .enter 11 0 fn55 q q q<|.seq<|.room 0<|.reg0 q (.o (bxP (s := 3) (cs := (TSpace.lit a0)) q ⟨q, by decide, q⟩ q)<|.o (asV q)<|.nil0)<|.seq ?_
  obtain ⟨t2_5, g2_5, h⟩ := h
  refine .reg0 (e1 := listEnv [(2, bo ((a0.Tag == 5) || (t2_5 != 0)))]) (H1 := [⟨3, [(TSpace.lit a0)], 0, none⟩]) q ?_ ?_
  · refine .o (faP fa25_0 q)<|.o (ldP q sz22 ag22 q)<|.o (eqI q q)<|.m q<|?_
    by_cases c1 : a0.Tag = 5
    · exact (.n q (bt c1)<|.n q (bt c1)<|.n q (bt c1)<|.o (pkTV q (bt c1) q)<|.a q<|.nilL _ ⟨cB q (mOrT (bt c1)), trivial⟩)
    · exact (.g q (bn c1) (ldG q sz25 ag25 q)<|.callI (gT q q q (bn c1)) (callee_of q go29 q) (.pure q q (hs29 _ _ (g2_5 c1)))<|.g q (bn c1) (neI q q)<|.o (pkFV q (bn c1) q)<|.a q<|.nilL _ ⟨cB q (mOrF (bn c1) q), trivial⟩)
  replace h := h.symm
  subst h
  refine .kf [(2, bo ((a0.Tag == 5) || (t2_5 != 0)))] q q ?_
  exact .ret q
def weight_Space.j1 (a0 : TSpace) : Unit → Int → Prop := fun _ r => if ((decide (a0.Dim ≥ 0)) && ((decide (a0.Dim ≤ 64)) && ((a0.Parts.length : Int) == 0))) = true then (r = 0) else (r = 50)
def weight_Space.step (self29 : TSpace → Int → Prop) (a0 : TSpace) (r : Int) : Prop :=
  if a0.Tag = 1 then (if ((a0.Dim == 0) && ((a0.Parts.length : Int) == 0)) = true then (r = 0) else (r = 50)) else (if a0.Tag = 2 then (if ((decide (a0.Dim ≥ 0)) && ((decide (a0.Dim ≤ 1048576)) && ((a0.Parts.length : Int) == 0))) = true then (r = 0) else (r = 50)) else (if a0.Tag = 3 then (weight_Space.j1 a0 () r) else (if a0.Tag = 4 then (weight_Space.j1 a0 () r) else (if a0.Tag = 5 then (∃ t40_12 : Bool, ((a0.Dim = 0) → ((a0.Parts.length : Int) = 2) → slices_ContainsFunc_Space.f a0.Parts (fun x0_ y_ => weight_Space_1.f self29 x0_ y_) t40_12) ∧ if ((a0.Dim == 0) && (((a0.Parts.length : Int) == 2) && (!t40_12))) = true then (r = 0) else (r = 50)) else (r = 50)))))
theorem weight_Space.stepD {self29 : TSpace → Int → Prop} {a0 : TSpace} (hs29 : ∀ z0_ r_, self29 z0_ r_ → D Tryz.prog X (.callH 29 [.agg (TSpace.lit z0_)] [] (.val (.int .i64 r_)) [])) {r : Int} (h : weight_Space.step self29 a0 r) : D Tryz.prog X (.callH 29 [.agg (TSpace.lit a0)] [] (.val (.int .i64 r)) []) := by
  unfold weight_Space.step at h
  refine .enter 70 0 fn29 q q q<|.seq<|.room 0<|.reg0 q (.o (bxP (s := 3) (cs := (TSpace.lit a0)) q ⟨q, by decide, q⟩ q)<|.o (asV q)<|.nil0)<|.seq<|.reg0 q (.o (asV q)<|.nil0)<|.seq<|.seq<|.reg0 q (.o (faP fa25_0 q)<|.o (ldP q sz22 ag22 q)<|.nil0)<|.block<|.seq<|.block<|.seq ?_
  refine .consJ (fun s_ => weight_Space.j1 a0 s_ r) (fun _ => listEnv [(1, .ptr 0 1 3 0 0)]) (fun _ => [⟨3, [(TSpace.lit a0)], 0, none⟩]) ?_ fun hJ1 => ?_
  · rintro ⟨⟩ h
    unfold weight_Space.j1 at h
    try dsimp only at h
    refine .seq ?_
    refine .reg0 (e1 := listEnv [(3, bo ((decide (a0.Dim ≥ 0)) && ((decide (a0.Dim ≤ 64)) && ((a0.Parts.length : Int) == 0))))]) (H1 := [⟨3, [(TSpace.lit a0)], 0, none⟩]) q ?_ ?_
    · refine .o (faP fa25_1 q)<|.o (ldP q sz3 ag3 q)<|.o (geI q q)<|.m q<|?_
      by_cases c14 : a0.Dim ≥ 0
      · refine .g q (dt c14) (faP fa25_1 q)<|.g q (dt c14) (ldP q sz3 ag3 q)<|.g q (dt c14) (leI q q)<|.o (pkTV q (dt c14) q)<|.m q<|?_
        by_cases c15 : a0.Dim ≤ 64
        · exact (.g q (dt c15) (faP fa25_2 q)<|.g q (dt c15) (ldP q sz23 ag23 q)<|.g q (dt c15) (lnR (l := a0.Parts) sl23 q)<|.g q (dt c15) (eqI q q)<|.o (pkTV q (dt c15) q)<|.a q<|.nilL _ ⟨cB q (mAndT (dt c14) (mAndT (dt c15) q)), trivial⟩)
        · exact (.n q (df c15)<|.n q (df c15)<|.n q (df c15)<|.n q (df c15)<|.o (pkFV q (df c15) q)<|.a q<|.nilL _ ⟨cB q (mAndT (dt c14) (mAndF (df c15))), trivial⟩)
      · exact (.n q (df c14)<|.n q (df c14)<|.n q (df c14)<|.o (pkFV q (df c14) q)<|.m q<|.n q q<|.n q q<|.n q q<|.n q q<|.o (pkFV q q q)<|.a q<|.nilL _ ⟨cB q (mAndF (df c14)), trivial⟩)
    refine .exit q<|.seq<|.seq<|.reg0 q (.o (mvV q)<|.o (notB q)<|.nil0) ?_
    by_cases c16 : ((decide (a0.Dim ≥ 0)) && ((decide (a0.Dim ≤ 64)) && ((a0.Parts.length : Int) == 0))) = true
    · rw [if_pos c16] at h
      refine .condF q (bnotF c16)<|.skip<|.seq<|.reg0 q (.o (asV q)<|.nil0) ?_
      replace h := h.symm
      subst h
      refine .kf [(2, i6 0)] q q ?_
      exact .ret q
    · rw [if_neg c16] at h
      refine .condT q (bnotT (nb c16))<|.seq<|.reg0 q (.o (asV q)<|.nil0) ?_
      replace h := h.symm
      subst h
      refine .kf [(2, i6 50)] q q ?_
      exact .ret q
  · refine .block<|.block<|.seq<|.block<|.seq<|.block<|.seq<|.seq<|.seq<|.reg0 q (.o (eqI q q)<|.o (asV q)<|.nil0) ?_
    by_cases c17 : a0.Tag = 1
    · rw [if_pos c17] at h
      refine .condT q (bt c17)<|.exit q<|.seq ?_
      refine .reg0 (e1 := listEnv [(3, bo ((a0.Dim == 0) && ((a0.Parts.length : Int) == 0)))]) (H1 := [⟨3, [(TSpace.lit a0)], 0, none⟩]) q ?_ ?_
      · refine .o (faP fa25_1 q)<|.o (ldP q sz3 ag3 q)<|.o (eqI q q)<|.m q<|?_
        by_cases c18 : a0.Dim = 0
        · exact (.g q (bt c18) (faP fa25_2 q)<|.g q (bt c18) (ldP q sz23 ag23 q)<|.g q (bt c18) (lnR (l := a0.Parts) sl23 q)<|.g q (bt c18) (eqI q q)<|.o (pkTV q (bt c18) q)<|.a q<|.nilL _ ⟨cB q (mAndT (bt c18) q), trivial⟩)
        · exact (.n q (bn c18)<|.n q (bn c18)<|.n q (bn c18)<|.n q (bn c18)<|.o (pkFV q (bn c18) q)<|.a q<|.nilL _ ⟨cB q (mAndF (bn c18)), trivial⟩)
      refine .exit q<|.seq<|.seq<|.reg0 q (.o (mvV q)<|.o (notB q)<|.nil0) ?_
      by_cases c19 : ((a0.Dim == 0) && ((a0.Parts.length : Int) == 0)) = true
      · rw [if_pos c19] at h
        refine .condF q (bnotF c19)<|.skip<|.seq<|.reg0 q (.o (asV q)<|.nil0) ?_
        replace h := h.symm
        subst h
        refine .kf [(2, i6 0)] q q ?_
        exact .ret q
      · rw [if_neg c19] at h
        refine .condT q (bnotT (nb c19))<|.seq<|.reg0 q (.o (asV q)<|.nil0) ?_
        replace h := h.symm
        subst h
        refine .kf [(2, i6 50)] q q ?_
        exact .ret q
    · rw [if_neg c17] at h
      refine .condF q (bn c17)<|.skip<|.seq<|.seq<|.reg0 q (.o (eqI q q)<|.o (asV q)<|.nil0) ?_
      by_cases c20 : a0.Tag = 2
      · rw [if_pos c20] at h
        refine .condT q (bt c20)<|.exit q<|.seq ?_
        refine .reg0 (e1 := listEnv [(3, bo ((decide (a0.Dim ≥ 0)) && ((decide (a0.Dim ≤ 1048576)) && ((a0.Parts.length : Int) == 0))))]) (H1 := [⟨3, [(TSpace.lit a0)], 0, none⟩]) q ?_ ?_
        · refine .o (faP fa25_1 q)<|.o (ldP q sz3 ag3 q)<|.o (geI q q)<|.m q<|?_
          by_cases c21 : a0.Dim ≥ 0
          · refine .g q (dt c21) (faP fa25_1 q)<|.g q (dt c21) (ldP q sz3 ag3 q)<|.g q (dt c21) (leI q q)<|.o (pkTV q (dt c21) q)<|.m q<|?_
            by_cases c22 : a0.Dim ≤ 1048576
            · exact (.g q (dt c22) (faP fa25_2 q)<|.g q (dt c22) (ldP q sz23 ag23 q)<|.g q (dt c22) (lnR (l := a0.Parts) sl23 q)<|.g q (dt c22) (eqI q q)<|.o (pkTV q (dt c22) q)<|.a q<|.nilL _ ⟨cB q (mAndT (dt c21) (mAndT (dt c22) q)), trivial⟩)
            · exact (.n q (df c22)<|.n q (df c22)<|.n q (df c22)<|.n q (df c22)<|.o (pkFV q (df c22) q)<|.a q<|.nilL _ ⟨cB q (mAndT (dt c21) (mAndF (df c22))), trivial⟩)
          · exact (.n q (df c21)<|.n q (df c21)<|.n q (df c21)<|.o (pkFV q (df c21) q)<|.m q<|.n q q<|.n q q<|.n q q<|.n q q<|.o (pkFV q q q)<|.a q<|.nilL _ ⟨cB q (mAndF (df c21)), trivial⟩)
        refine .exit q<|.seq<|.seq<|.reg0 q (.o (mvV q)<|.o (notB q)<|.nil0) ?_
        by_cases c23 : ((decide (a0.Dim ≥ 0)) && ((decide (a0.Dim ≤ 1048576)) && ((a0.Parts.length : Int) == 0))) = true
        · rw [if_pos c23] at h
          refine .condF q (bnotF c23)<|.skip<|.seq<|.reg0 q (.o (asV q)<|.nil0) ?_
          replace h := h.symm
          subst h
          refine .kf [(2, i6 0)] q q ?_
          exact .ret q
        · rw [if_neg c23] at h
          refine .condT q (bnotT (nb c23))<|.seq<|.reg0 q (.o (asV q)<|.nil0) ?_
          replace h := h.symm
          subst h
          refine .kf [(2, i6 50)] q q ?_
          exact .ret q
      · rw [if_neg c20] at h
        refine .condF q (bn c20)<|.skip<|.seq<|.seq<|.reg0 q (.o (eqI q q)<|.o (asV q)<|.nil0) ?_
        by_cases c24 : a0.Tag = 3
        · rw [if_pos c24] at h
          refine .condT q (bt c24)<|.exit q<|.inBlock<|.keepL [0] [(1, .ptr 0 1 3 0 0)] [⟨3, [(TSpace.lit a0)], 0, none⟩] (by decide) (by decide) ⟨.ptr q, trivial⟩ ⟨⟨_, q, bcBox (all2_free q)⟩, trivial⟩ ?_
          exact hJ1 _ h
        · rw [if_neg c24] at h
          refine .condF q (bn c24)<|.skip<|.seq<|.seq<|.reg0 q (.o (eqI q q)<|.o (asV q)<|.nil0) ?_
          by_cases c25 : a0.Tag = 4
          · rw [if_pos c25] at h
            refine .condT q (bt c25)<|.exit q<|.keepL [0] [(1, .ptr 0 1 3 0 0)] [⟨3, [(TSpace.lit a0)], 0, none⟩] (by decide) (by decide) ⟨.ptr q, trivial⟩ ⟨⟨_, q, bcBox (all2_free q)⟩, trivial⟩ ?_
            exact hJ1 _ h
          · rw [if_neg c25] at h
            refine .condF q (bn c25)<|.skip<|.seq<|.reg0 q (.o (eqI q q)<|.o (asV q)<|.nil0) ?_
            by_cases c26 : a0.Tag = 5
            · rw [if_pos c26] at h
              refine .condT q (bt c26)<|.exit q<|.seq ?_
              obtain ⟨t40_12, g40_12, h⟩ := h
              refine .reg0 (e1 := listEnv [(3, bo ((a0.Dim == 0) && (((a0.Parts.length : Int) == 2) && (!t40_12))))]) (H1 := [⟨3, [(TSpace.lit a0)], 0, none⟩]) q ?_ ?_
              · refine .o (faP fa25_1 q)<|.o (ldP q sz3 ag3 q)<|.o (eqI q q)<|.m q<|?_
                by_cases c27 : a0.Dim = 0
                · refine .g q (bt c27) (faP fa25_2 q)<|.g q (bt c27) (ldP q sz23 ag23 q)<|.g q (bt c27) (lnR (l := a0.Parts) sl23 q)<|.g q (bt c27) (eqI q q)<|.o (pkTV q (bt c27) q)<|.m q<|?_
                  by_cases c28 : (a0.Parts.length : Int) = 2
                  · exact (.g q (bt c28) (faP fa25_2 q)<|.g q (bt c28) (ldP q sz23 ag23 q)<|.callI (gT q q q (bt c28)) (callee_of q go54 q) (.pure q q (slices_ContainsFunc_Space.D (k1_ := []) go55 q q (fun x0_ y_ h_ => weight_Space_1.D hs29 h_) (g40_12 c27 c28)))<|.g q (bt c28) (notB q)<|.o (pkTV q (bt c28) q)<|.a q<|.nilL _ ⟨cB q (mAndT (bt c27) (mAndT (bt c28) q)), trivial⟩)
                  · exact (.n q (bn c28)<|.n q (bn c28)<|.n q (bn c28)<|.n q (bn c28)<|.o (pkFV q (bn c28) q)<|.a q<|.nilL _ ⟨cB q (mAndT (bt c27) (mAndF (bn c28))), trivial⟩)
                · exact (.n q (bn c27)<|.n q (bn c27)<|.n q (bn c27)<|.n q (bn c27)<|.o (pkFV q (bn c27) q)<|.m q<|.n q q<|.n q q<|.n q q<|.n q q<|.o (pkFV q q q)<|.a q<|.nilL _ ⟨cB q (mAndF (bn c27)), trivial⟩)
              refine .exit q<|.seq<|.seq<|.reg0 q (.o (mvV q)<|.o (notB q)<|.nil0) ?_
              by_cases c29 : ((a0.Dim == 0) && (((a0.Parts.length : Int) == 2) && (!t40_12))) = true
              · rw [if_pos c29] at h
                refine .condF q (bnotF c29)<|.skip<|.seq<|.reg0 q (.o (asV q)<|.nil0) ?_
                replace h := h.symm
                subst h
                refine .kf [(2, i6 0)] q q ?_
                exact .ret q
              · rw [if_neg c29] at h
                refine .condT q (bnotT (nb c29))<|.seq<|.reg0 q (.o (asV q)<|.nil0) ?_
                replace h := h.symm
                subst h
                refine .kf [(2, i6 50)] q q ?_
                exact .ret q
            · rw [if_neg c26] at h
              refine .condF q (bn c26)<|.skip<|.exit q<|.seq<|.seq<|.reg0 q (.o (mvV q)<|.o (notB q)<|.nil0)<|.condT q (bnotT q)<|.seq<|.reg0 q (.o (asV q)<|.nil0) ?_
              replace h := h.symm
              subst h
              refine .kf [(2, i6 50)] q q ?_
              exact .ret q
def weight_Space.fN : Nat → TSpace → Int → Prop
  | 0 => fun _ _ => False
  | n + 1 => weight_Space.step (weight_Space.fN n)
theorem weight_Space.ND : ∀ (n : Nat) {a0 : TSpace} {r : Int} (h : weight_Space.fN n a0 r), D Tryz.prog X (.callH 29 [.agg (TSpace.lit a0)] [] (.val (.int .i64 r)) [])
  | 0, _, _, h => h.elim
  | n + 1, _, _, h => weight_Space.stepD (fun _ _ h => weight_Space.ND n h) h
def weight_Space.f (a0 : TSpace) (r : Int) : Prop := ∃ n, weight_Space.fN n a0 r
theorem weight_Space.D {a0 r} (h : weight_Space.f a0 r) : D Tryz.prog X (.callH 29 [.agg (TSpace.lit a0)] [] (.val (.int .i64 r)) []) := by obtain ⟨n, h⟩ := h; exact weight_Space.ND n h
def bits_Full.f (a0 : Int) (r : Int × Int) : Prop :=
  if ((decide (a0 < 0)) || (decide (a0 > 64))) = true then (r = (0, 10)) else ((((0 : Int) ≤ (IntKind.u64.wrap (IntKind.i64.wrap (64 - a0))))) ∧ r = ((shrI .u64 18446744073709551615 (IntKind.u64.wrap (IntKind.i64.wrap (64 - a0)))), 0))
theorem bits_Full.D {a0 r} (h : bits_Full.f a0 r) : D Tryz.prog X (.callH 115 [.val (.int .i64 a0)] [] (.tuple [.val (.int .u64 r.1), .val (.int .i64 r.2)]) []) := by
  unfold bits_Full.f at h
  refine .enter 14 0 fn115 q q q<|.seq<|.reg0 q (.o (asV q)<|.o (asV q)<|.nil0)<|.seq<|.seq ?_
  refine .reg0 (e1 := listEnv [(0, i6 a0), (9, bo ((decide (a0 < 0)) || (decide (a0 > 64))))]) (H1 := []) q ?_ ?_
  · refine .m q<|.o (ltI q q)<|.m q<|?_
    by_cases c1 : a0 < 0
    · exact (.n q (dt c1)<|.n q (dt c1)<|.o (pkTV q (dt c1) q)<|.nilL _ ⟨.free q q, cB q (mOrT (dt c1)), trivial⟩)
    · exact (.g q (df c1) (mvV q)<|.g q (df c1) (gtI q q)<|.o (pkFV q (df c1) q)<|.nilL _ ⟨.free q q, cB q (mOrF (df c1) q), trivial⟩)
  by_cases c2 : ((decide (a0 < 0)) || (decide (a0 > 64))) = true
  · rw [if_pos c2] at h
    refine .condT q c2<|.seq<|.reg0 q (.o (asV q)<|.o (asV q)<|.nil0) ?_
    replace h := h.symm
    subst h
    refine .kf [(2, u6 0), (3, i6 10)] q q ?_
    exact .ret q
  · rw [if_neg c2] at h
    refine .condF q (nb c2)<|.skip<|.seq ?_
    obtain ⟨g4_3, h⟩ := h
    refine .reg0 q (.m q<|.o (subI q q)<|.o (convI un3 un145 q)<|.o (shr_ q q g4_3)<|.a q<|.a q<|.nil0) ?_
    replace h := h.symm
    subst h
    refine .kf [(2, u6 (shrI .u64 18446744073709551615 (IntKind.u64.wrap (IntKind.i64.wrap (64 - a0))))), (3, i6 0)] q q ?_
    exact .ret q
def facts_One.b1 (a0 : Int) : ((List Int) × Int) → Rnd (((List Int) × Int)) ((List Int)) (TFacts × Int) → Prop := fun (x1, x2) z1 => if x2 < ((List.replicate (Int.toNat a0) (0 : Int)).length : Int) then ((((0 : Int) ≤ (IntKind.u64.wrap x2))) ∧ ((InR x2 x1.length)) ∧ z1 = .next ((setl x1 x2 (shlI .u64 1 (IntKind.u64.wrap x2))), (IntKind.i64.wrap (x2 + 1)))) else (z1 = .exit x1)
def facts_One.f (a0 : Int) (r : TFacts × Int) : Prop :=
  ∃ t2_1 : Int × Int, (bits_Full.f a0 t2_1) ∧ if t2_1.2 = 0 then ((((0 : Int) ≤ a0 ∧ Fits a0 8)) ∧ ∃ o1 : Fin ((List Int)) (TFacts × Int), Loop (facts_One.b1 a0) ((List.replicate (Int.toNat a0) (0 : Int)), 0) o1 ∧ o1.on (fun x3 => r = ((TFacts.mk 0 x3), 0)) (fun r_ => r = r_)) else (r = ((TFacts.mk 0 []), 31))
theorem facts_One.D {a0 r} (h : facts_One.f a0 r) : D Tryz.prog X (.callH 68 [.val (.int .i64 a0)] [] (.tuple [.agg (TFacts.lit r.1), .val (.int .i64 r.2)]) []) := by
  unfold facts_One.f at h
  refine .enter 34 0 fn68 q q q<|.seq<|.room 0<|.reg0 q (.o (alP (s := 2) ze29 ⟨q, by decide, q⟩ q)<|.o (asV q)<|.nil0)<|.seq<|.seq ?_
  obtain ⟨t2_1, g2_1, h⟩ := h
  refine .reg0 q (.m q<|.c q go115 q q q (bits_Full.D g2_1)<|.o (mvT q)<|.o (exT q q)<|.o (exT q q)<|.a q<|.a q<|.nil0)<|.seq<|.reg0 q (.o (mvV q)<|.o (neI q q)<|.nil0) ?_
  by_cases c1 : t2_1.2 = 0
  · rw [if_pos c1] at h
    refine .condF q (nf c1)<|.skip<|.seq ?_
    obtain ⟨g4_1, h⟩ := h
    refine .room 0<|.room 0<|.reg0 q (.o (mvV q)<|.op 1 q (mkS (z0 := (0 : Int)) sl27 un27 ze26 q q g4_1.1 g4_1.2 q)<|.o (bldS (cs := [u6 0, .own 1 ((List.replicate (Int.toNat a0) (0 : Int)).length)]) ze29 pl29 q q)<|.op 2 q (alP (s := 2) ze29 ⟨q, by decide, q⟩ q)<|.o (stB (cs0 := [u6 0, nul]) (cs := [u6 0, .own 1 ((List.replicate (Int.toNat a0) (0 : Int)).length)]) (cs1 := [u6 0, .own 1 ((List.replicate (Int.toNat a0) (0 : Int)).length)]) q q sz29 q ⟨Nat.le_of_ble_eq_true q, q⟩ q)<|.nil0) ?_
    refine .seq<|.seq<|.reg0 q (.o (faP fa29_1 q)<|.o (ldP q sz27 ag27 q)<|.o (lnO (l := (List.replicate (Int.toNat a0) (0 : Int))) sl27 q q q)<|.o (mvV q)<|.nil0)<|.block<|.keepL [0, 2, 1] [(2, .ptr 0 1 2 0 0), (6, .ptr 1 1 2 0 0), (21, i6 ((List.replicate (Int.toNat a0) (0 : Int)).length : Int)), (22, i6 0)] [⟨2, [[u6 0, nul]], 0, none⟩, ⟨2, [[u6 0, .own 2 ((List.replicate (Int.toNat a0) (0 : Int)).length)]], 0, none⟩, ⟨1, (List.replicate (Int.toNat a0) (0 : Int)).map (cInt .u64), 0, none⟩] (by decide) (by decide) ⟨.ptr q, .ptr q, .free q q, .free q q, trivial⟩ ⟨⟨_, q, bcBox (all2_free q)⟩, ⟨_, q, bcBox (.cons (.free q q)<|.cons (.own q)<|.nil)⟩, ⟨_, q, bcRow (l := (List.replicate (Int.toNat a0) (0 : Int))) sl27 (Nat.le_refl _) q⟩, trivial⟩ ?_
    obtain ⟨o1, hL1, h⟩ := h
    refine .loopB (facts_One.b1 a0) (fun (x1, x2) => listEnv [(2, .ptr 0 1 2 0 0), (6, .ptr 1 1 2 0 0), (21, i6 ((List.replicate (Int.toNat a0) (0 : Int)).length : Int)), (22, i6 x2)]) (fun (x1, x2) => [⟨2, [[u6 0, nul]], 0, none⟩, ⟨2, [[u6 0, .own 2 x1.length]], 0, none⟩, ⟨1, x1.map (cInt .u64), 0, none⟩]) (fun x3 => listEnv [(2, .ptr 0 1 2 0 0), (6, .ptr 1 1 2 0 0)]) (fun x3 => [⟨2, [[u6 0, nul]], 0, none⟩, ⟨2, [[u6 0, .own 2 x3.length]], 0, none⟩, ⟨1, x3.map (cInt .u64), 0, none⟩]) hL1 (fun r_ => r = r_) ?_ ?_ ?_
    · rintro x3 rfl
      try dsimp only [Fin.on] at h
      refine .seq<|.reg0 q (.o (ldG q sz29 ag29 q)<|.o (stB (cs0 := [u6 0, nul]) (cs := [u6 0, .own 2 x3.length]) (cs1 := [u6 0, .own 2 x3.length]) q q sz29 q ⟨Nat.le_of_ble_eq_true q, q⟩ q)<|.o (asV q)<|.nil0) ?_
      replace h := h.symm
      subst h
      refine .k [(2, .cptr [u6 0, .rows (x3.map (cInt .u64))] 0), (3, i6 0)] ⟨cFixP q q (.cons (.free q q)<|.cons (cFixO (l := x3) sl27 q q q q)<|.nil), .free q q, trivial⟩ ?_
      exact .ret q
    · rintro r_ rfl
      exact h
    · rintro ⟨x1, x2⟩ z1 h hn1 hx1 hr1
      dsimp only [facts_One.b1] at h
      refine .seq<|.reg0 q (.o (ltI q q)<|.nil0)<|.seq ?_
      by_cases c4 : x2 < ((List.replicate (Int.toNat a0) (0 : Int)).length : Int)
      · rw [if_pos c4] at h
        refine .condT q (dt c4)<|.skip<|.seq<|.block<|.seq<|.reg0 q (.o (mvV q)<|.o (asV q)<|.nil0) ?_
        obtain ⟨g16_5, h⟩ := h
        obtain ⟨g16_6, h⟩ := h
        refine .reg0 q (.o (faP fa29_1 q)<|.o (ldP q sz27 ag27 q)<|.m q<|.m q<|.o (convI un3 un145 q)<|.o (shl_ q q g16_5)<|.o (ixO (l := x1) sl27 q q q q g16_6.1 g16_6.2)<|.o (stO (l := x1) (j := x2) (cs := [u6 (shlI .u64 1 (IntKind.u64.wrap x2))]) (shlI .u64 1 (IntKind.u64.wrap x2)) sl27 q q sz26 q q g16_6.1 g16_6.2 (Nat.zero_le _) ⟨Nat.le_of_ble_eq_true q, q⟩ q)<|.nil0) ?_
        refine .inBlock<|.reg0 q (.o (addI q q)<|.o (mvV q)<|.nil0)<|.keepL [0, 1, 2] [(2, .ptr 0 1 2 0 0), (6, .ptr 1 1 2 0 0), (21, i6 ((List.replicate (Int.toNat a0) (0 : Int)).length : Int)), (22, i6 (IntKind.i64.wrap (x2 + 1)))] [⟨2, [[u6 0, nul]], 0, none⟩, ⟨2, [[u6 0, .own 2 ((setl x1 x2 (shlI .u64 1 (IntKind.u64.wrap x2))).length)]], 0, none⟩, ⟨1, (setl x1 x2 (shlI .u64 1 (IntKind.u64.wrap x2))).map (cInt .u64), 0, none⟩] (by decide) (by decide) ⟨.ptr q, .ptr q, .free q q, .free q q, trivial⟩ ⟨⟨_, q, bcBox (all2_free q)⟩, ⟨_, q, bcBox (.cons (.free q q)<|.cons (cOwnE q (by simp only [setl, List.length_set]))<|.nil)⟩, ⟨_, q, bcRow (l := (setl x1 x2 (shlI .u64 1 (IntKind.u64.wrap x2)))) sl27 (Nat.le_refl _) q⟩, trivial⟩ ?_
        exact hn1 _ h
      · rw [if_neg c4] at h
        refine .condF q (df c4)<|.exit q<|.keepL [0, 1, 2] [(2, .ptr 0 1 2 0 0), (6, .ptr 1 1 2 0 0)] [⟨2, [[u6 0, nul]], 0, none⟩, ⟨2, [[u6 0, .own 2 x1.length]], 0, none⟩, ⟨1, x1.map (cInt .u64), 0, none⟩] (by decide) (by decide) ⟨.ptr q, .ptr q, trivial⟩ ⟨⟨_, q, bcBox (all2_free q)⟩, ⟨_, q, bcBox (.cons (.free q q)<|.cons (.own q)<|.nil)⟩, ⟨_, q, bcRow (l := x1) sl27 (Nat.le_refl _) q⟩, trivial⟩ ?_
        exact hx1 _ h
  · rw [if_neg c1] at h
    refine .condT q (nt c1)<|.seq<|.reg0 q (.o (bldS (cs := [u6 0, nul]) ze29 pl29 q q)<|.o (stB (cs0 := [u6 0, nul]) (cs := [u6 0, nul]) (cs1 := [u6 0, nul]) q q sz29 q ⟨Nat.le_of_ble_eq_true q, q⟩ q)<|.o (asV q)<|.nil0) ?_
    replace h := h.symm
    subst h
    refine .k [(2, .cptr [u6 0, .rows (([] : List Int).map (cInt .u64))] 0), (3, i6 31)] ⟨cFixP q q (.cons (.free q q)<|.cons (.nil)<|.nil), .free q q, trivial⟩ ?_
    exact .ret q
def cells_dims.f (a0 : Int) (r : Int) : Prop :=
  if ((decide (a0 < 0)) || (decide (a0 > 64))) = true then (r = 41) else (r = 0)
theorem cells_dims.D {a0 r} (h : cells_dims.f a0 r) : D Tryz.prog X (.callH 89 [.val (.int .i64 a0)] [] (.val (.int .i64 r)) []) := by
  unfold cells_dims.f at h
  refine .enter 9 0 fn89 q q q<|.seq<|.reg0 q (.o (asV q)<|.nil0)<|.seq<|.seq ?_
  refine .reg0 (e1 := listEnv [(8, bo ((decide (a0 < 0)) || (decide (a0 > 64))))]) (H1 := []) q ?_ ?_
  · refine .m q<|.o (ltI q q)<|.m q<|?_
    by_cases c1 : a0 < 0
    · exact (.n q (dt c1)<|.n q (dt c1)<|.o (pkTV q (dt c1) q)<|.nilL _ ⟨cB q (mOrT (dt c1)), trivial⟩)
    · exact (.g q (df c1) (mvV q)<|.g q (df c1) (gtI q q)<|.o (pkFV q (df c1) q)<|.nilL _ ⟨cB q (mOrF (df c1) q), trivial⟩)
  by_cases c2 : ((decide (a0 < 0)) || (decide (a0 > 64))) = true
  · rw [if_pos c2] at h
    refine .condT q c2<|.seq<|.reg0 q (.o (asV q)<|.nil0) ?_
    replace h := h.symm
    subst h
    refine .kf [(2, i6 41)] q q ?_
    exact .ret q
  · rw [if_neg c2] at h
    refine .condF q (nb c2)<|.skip<|.seq<|.reg0 q (.o (asV q)<|.nil0) ?_
    replace h := h.symm
    subst h
    refine .kf [(2, i6 0)] q q ?_
    exact .ret q
def cells_one.b1 (a0 : Int) : ((List TCell) × Int) → Rnd (((List TCell) × Int)) ((List TCell)) ((List TCell)) → Prop := fun (x1, x2) z1 => if x2 < a0 then ((((0 : Int) ≤ x2)) ∧ ((InR x2 x1.length)) ∧ z1 = .next ((setl x1 x2 (TCell.mk (shlI .u64 1 x2) ((rdl x1 x2).Kind) ((rdl x1 x2).K))), (IntKind.i64.wrap (x2 + 1)))) else (z1 = .exit x1)
def cells_one.f (a0 : Int) (r : (List TCell)) : Prop :=
  (((0 : Int) ≤ a0 ∧ Fits a0 24)) ∧ ∃ o1 : Fin ((List TCell)) ((List TCell)), Loop (cells_one.b1 a0) ((List.replicate (Int.toNat a0) (TCell.mk 0 0 0)), 0) o1 ∧ o1.on (fun x3 => r = x3) (fun r_ => r = r_)
theorem cells_one.D {a0 r} (h : cells_one.f a0 r) : D Tryz.prog X (.callH 116 [.val (.int .i64 a0)] [] (.rows (r.map TCell.cells)) []) := by
  unfold cells_one.f at h
  refine .enter 19 0 fn116 q q q<|.seq<|.reg0 q (.o (asV q)<|.nil0)<|.seq ?_
  obtain ⟨g2_1, h⟩ := h
  refine .room 0<|.reg0 q (.o (mvV q)<|.o (mkS (z0 := (TCell.mk 0 0 0)) sl30 un30 ze74 q q g2_1.1 g2_1.2 q)<|.o (asO q)<|.nil0)<|.seq<|.seq<|.reg0 q (.o (mvV q)<|.o (mvV q)<|.nil0)<|.block<|.keepL [0] [(3, .own 0 ((List.replicate (Int.toNat a0) (TCell.mk 0 0 0)).length)), (7, i6 a0), (8, i6 0)] [⟨3, (List.replicate (Int.toNat a0) (TCell.mk 0 0 0)).map TCell.cells, 0, none⟩] (by decide) (by decide) ⟨.own q, .free q q, .free q q, trivial⟩ ⟨⟨_, q, bcRow (l := (List.replicate (Int.toNat a0) (TCell.mk 0 0 0))) sl30 (Nat.le_refl _) q⟩, trivial⟩ ?_
  obtain ⟨o1, hL1, h⟩ := h
  refine .loopB (cells_one.b1 a0) (fun (x1, x2) => listEnv [(3, .own 0 x1.length), (7, i6 a0), (8, i6 x2)]) (fun (x1, x2) => [⟨3, x1.map TCell.cells, 0, none⟩]) (fun x3 => listEnv [(3, .own 0 x3.length)]) (fun x3 => [⟨3, x3.map TCell.cells, 0, none⟩]) hL1 (fun r_ => r = r_) ?_ ?_ ?_
  · rintro x3 rfl
    try dsimp only [Fin.on] at h
    refine .seq<|.reg0 q (.o (mvO q)<|.o (asO q)<|.nil0) ?_
    replace h := h.symm
    subst h
    refine .k [(2, .rows (x3.map TCell.cells))] ⟨cFixO (l := x3) sl30 q q q q, trivial⟩ ?_
    exact .ret q
  · rintro r_ rfl
    exact h
  · rintro ⟨x1, x2⟩ z1 h hn1 hx1 hr1
    dsimp only [cells_one.b1] at h
    refine .seq<|.reg0 q (.o (ltI q q)<|.nil0)<|.seq ?_
    by_cases c3 : x2 < a0
    · rw [if_pos c3] at h
      refine .condT q (dt c3)<|.skip<|.seq<|.block<|.seq<|.reg0 q (.o (mvV q)<|.o (asV q)<|.nil0) ?_
      obtain ⟨g14_3, h⟩ := h
      obtain ⟨g14_4, h⟩ := h
      refine .reg0 q (.o (mvO q)<|.m q<|.m q<|.o (shl_ q q g14_3)<|.o (ixO (l := x1) sl30 q q q q g14_4.1 g14_4.2)<|.o (faP fa74_0 q)<|.o (stO (l := x1) (j := x2) (cs := [u6 (shlI .u64 1 x2)]) (TCell.mk (shlI .u64 1 x2) ((rdl x1 x2).Kind) ((rdl x1 x2).K)) sl30 q q sz26 q q g14_4.1 g14_4.2 (Nat.zero_le _) ⟨Nat.le_of_ble_eq_true q, q⟩ q)<|.nil0)<|.inBlock<|.reg0 q (.o (addI q q)<|.o (mvV q)<|.nil0) ?_
      refine .keepL [0] [(3, .own 0 ((setl x1 x2 (TCell.mk (shlI .u64 1 x2) ((rdl x1 x2).Kind) ((rdl x1 x2).K))).length)), (7, i6 a0), (8, i6 (IntKind.i64.wrap (x2 + 1)))] [⟨3, (setl x1 x2 (TCell.mk (shlI .u64 1 x2) ((rdl x1 x2).Kind) ((rdl x1 x2).K))).map TCell.cells, 0, none⟩] (by decide) (by decide) ⟨cOwnE q (by simp only [setl, List.length_set]), .free q q, .free q q, trivial⟩ ⟨⟨_, q, bcRow (l := (setl x1 x2 (TCell.mk (shlI .u64 1 x2) ((rdl x1 x2).Kind) ((rdl x1 x2).K)))) sl30 (Nat.le_refl _) q⟩, trivial⟩ ?_
      exact hn1 _ h
    · rw [if_neg c3] at h
      refine .condF q (df c3)<|.exit q<|.keepL [0] [(3, .own 0 x1.length)] [⟨3, x1.map TCell.cells, 0, none⟩] (by decide) (by decide) ⟨.own q, trivial⟩ ⟨⟨_, q, bcRow (l := x1) sl30 (Nat.le_refl _) q⟩, trivial⟩ ?_
      exact hx1 _ h
def cells_One.f (a0 : Int) (r : (List TCell) × Int) : Prop :=
  ∃ t2_1 : Int, (cells_dims.f a0 t2_1) ∧ if t2_1 = 0 then (∃ t4_1 : (List TCell), (cells_one.f a0 t4_1) ∧ r = (t4_1, 0)) else (r = ([], t2_1))
theorem cells_One.D {a0 r} (h : cells_One.f a0 r) : D Tryz.prog X (.callH 69 [.val (.int .i64 a0)] [] (.tuple [.rows (r.1.map TCell.cells), .val (.int .i64 r.2)]) []) := by
  unfold cells_One.f at h
  refine .enter 12 0 fn69 q q q<|.seq<|.reg0 q (.o (asV q)<|.o (asV q)<|.nil0)<|.seq<|.seq ?_
  obtain ⟨t2_1, g2_1, h⟩ := h
  refine .reg0 q (.m q<|.c q go89 q q q (cells_dims.D g2_1)<|.a q<|.nil0)<|.seq<|.reg0 q (.o (mvV q)<|.o (neI q q)<|.nil0) ?_
  by_cases c1 : t2_1 = 0
  · rw [if_pos c1] at h
    refine .condF q (nf c1)<|.skip<|.seq ?_
    obtain ⟨t4_1, g4_1, h⟩ := h
    refine .reg0 q (.m q<|.c q go116 q q q (cells_one.D g4_1)<|.o (asR q)<|.a q<|.nil0) ?_
    replace h := h.symm
    subst h
    refine .kf [(2, .rows (t4_1.map TCell.cells)), (3, i6 0)] q q ?_
    exact .ret q
  · rw [if_neg c1] at h
    refine .condT q (nt c1)<|.seq<|.reg0 q (.o (mvV q)<|.o (asV q)<|.o (asV q)<|.nil0) ?_
    replace h := h.symm
    subst h
    refine .k [(2, .rows (([] : List TCell).map TCell.cells)), (3, i6 t2_1)] ⟨.nil, .free q q, trivial⟩ ?_
    exact .ret q
def weight_one.step (self40 : TSpace → TWeight → Prop) (a0 : TSpace) (r : TWeight) : Prop :=
  if a0.Tag = 3 then (∃ t5_2 : TFacts × Int, (facts_One.f a0.Dim t5_2) ∧ r = (TWeight.mk false 0 t5_2.1 [] [])) else (if a0.Tag = 4 then (∃ t8_2 : (List TCell) × Int, (cells_One.f a0.Dim t8_2) ∧ r = (TWeight.mk false 0 (TFacts.mk 0 []) t8_2.1 [])) else (if a0.Tag = 5 then (((InR 0 a0.Parts.length)) ∧ ∃ t11_4 : TWeight, (self40 (rdl a0.Parts 0) t11_4) ∧ ((InR 1 a0.Parts.length)) ∧ ∃ t11_9 : TWeight, (self40 (rdl a0.Parts 1) t11_9) ∧ r = (TWeight.mk false 0 (TFacts.mk 0 []) [] [t11_4, t11_9])) else (r = (TWeight.mk false 0 (TFacts.mk 0 []) [] []))))
theorem weight_one.stepD {self40 : TSpace → TWeight → Prop} {a0 : TSpace} (hs40 : ∀ z0_ r_, self40 z0_ r_ → D Tryz.prog X (.callH 40 [.agg (TSpace.lit z0_)] [] (.agg (TWeight.lit r_)) [])) {r : TWeight} (h : weight_one.step self40 a0 r) : D Tryz.prog X (.callH 40 [.agg (TSpace.lit a0)] [] (.agg (TWeight.lit r)) []) := by
  unfold weight_one.step at h
  refine .enter 39 0 fn40 q q q<|.seq<|.room 0<|.room 0<|.reg0 q (.o (bxP (s := 3) (cs := (TSpace.lit a0)) q ⟨q, by decide, q⟩ q)<|.op 1 q (alP (s := 6) ze33 ⟨q, by decide, q⟩ q)<|.nil0)<|.seq<|.room 0<|.reg0 q (.op 2 q (alP (s := 6) ze33 ⟨q, by decide, q⟩ q)<|.nil0)<|.seq<|.seq<|.reg0 q (.o (faP fa25_0 q)<|.o (ldP q sz22 ag22 q)<|.nil0) ?_
  refine .block<|.seq<|.reg0 q (.o (eqI q q)<|.o (asV q)<|.nil0) ?_
  by_cases c1 : a0.Tag = 3
  · rw [if_pos c1] at h
    refine .condT q (bt c1) ?_
    obtain ⟨t5_2, g5_2, h⟩ := h
    refine .reg0 q (.o (faP fa25_1 q)<|.o (ldP q sz3 ag3 q)<|.c q go68 q q q (facts_One.D g5_2)<|.o (mvT q)<|.o (exT q q)<|.o (exT q q)<|.o (faP fa33_2 q)<|.o (stB (cs0 := GD_c0) (cs := (TFacts.lit t5_2.1)) (cs1 := [bo false, i6 0, u6 t5_2.1.Gen, .rows (t5_2.1.Rows.map (cInt .u64)), nul, nul]) q q sz29 q ⟨Nat.le_of_ble_eq_true q, q⟩ q)<|.nil0) ?_
    refine .inBlock<|.seq<|.reg0 q (.o (ldG q sz33 ag33 q)<|.o (stB (cs0 := GD_c0) (cs := [bo false, i6 0, u6 t5_2.1.Gen, .rows (t5_2.1.Rows.map (cInt .u64)), nul, nul]) (cs1 := [bo false, i6 0, u6 t5_2.1.Gen, .rows (t5_2.1.Rows.map (cInt .u64)), nul, nul]) q q sz33 q ⟨Nat.le_of_ble_eq_true q, q⟩ q)<|.nil0) ?_
    replace h := h.symm
    subst h
    refine .k [(2, .cptr [bo false, i6 0, u6 t5_2.1.Gen, .rows (t5_2.1.Rows.map (cInt .u64)), .rows (([] : List TCell).map TCell.cells), .rows (([] : List TWeight).map TWeight.cells)] 0)] ⟨cFixP q q (.cons (.free q q)<|.cons (.free q q)<|.cons (.free q q)<|.cons (.free q q)<|.cons (.nil)<|.cons (.nil)<|.nil), trivial⟩ ?_
    exact .ret q
  · rw [if_neg c1] at h
    refine .condF q (bn c1)<|.seq<|.reg0 q (.o (eqI q q)<|.o (asV q)<|.nil0) ?_
    by_cases c2 : a0.Tag = 4
    · rw [if_pos c2] at h
      refine .condT q (bt c2) ?_
      obtain ⟨t8_2, g8_2, h⟩ := h
      refine .reg0 q (.o (faP fa25_1 q)<|.o (ldP q sz3 ag3 q)<|.c q go69 q q q (cells_One.D g8_2)<|.o (mvT q)<|.o (exT q q)<|.o (exT q q)<|.o (faP fa33_3 q)<|.o (stB (cs0 := GD_c0) (cs := [.rows (t8_2.1.map TCell.cells)]) (cs1 := [bo false, i6 0, u6 0, nul, .rows (t8_2.1.map TCell.cells), nul]) q q sz30 q ⟨Nat.le_of_ble_eq_true q, q⟩ q)<|.nil0) ?_
      refine .inBlock<|.seq<|.reg0 q (.o (ldG q sz33 ag33 q)<|.o (stB (cs0 := GD_c0) (cs := [bo false, i6 0, u6 0, nul, .rows (t8_2.1.map TCell.cells), nul]) (cs1 := [bo false, i6 0, u6 0, nul, .rows (t8_2.1.map TCell.cells), nul]) q q sz33 q ⟨Nat.le_of_ble_eq_true q, q⟩ q)<|.nil0) ?_
      replace h := h.symm
      subst h
      refine .k [(2, .cptr [bo false, i6 0, u6 0, .rows (([] : List Int).map (cInt .u64)), .rows (t8_2.1.map TCell.cells), .rows (([] : List TWeight).map TWeight.cells)] 0)] ⟨cFixP q q (.cons (.free q q)<|.cons (.free q q)<|.cons (.free q q)<|.cons (.nil)<|.cons (.free q q)<|.cons (.nil)<|.nil), trivial⟩ ?_
      exact .ret q
    · rw [if_neg c2] at h
      refine .condF q (bn c2)<|.seq<|.reg0 q (.o (eqI q q)<|.o (asV q)<|.nil0) ?_
      by_cases c3 : a0.Tag = 5
      · rw [if_pos c3] at h
        refine .condT q (bt c3) ?_
        obtain ⟨g11_2, h⟩ := h
        obtain ⟨t11_4, g11_4, h⟩ := h
        obtain ⟨g11_7, h⟩ := h
        obtain ⟨t11_9, g11_9, h⟩ := h
        refine .room 0 ?_
        refine .reg1 (e1 := listEnv [(2, .ptr 1 1 6 0 0), (3, .ptr 2 1 6 0 0)]) (H1 := [⟨3, [(TSpace.lit a0)], 0, none⟩, ⟨6, [GD_c0], 0, none⟩, ⟨6, [[bo false, i6 0, u6 0, nul, nul, .own 3 ([t11_4, t11_9].length)]], 0, none⟩, ⟨6, [t11_4, t11_9].map TWeight.cells, 0, none⟩]) q ?_ ?_
        · exact .drawM [(11, 37, .ptr 2 1 6 0 5), (10, 36, .own 3 ([t11_4, t11_9].length)), (9, 35, .agg (TWeight.lit t11_9)), (8, 34, .agg (TSpace.lit (rdl a0.Parts 1))), (7, 33, .cptr (TSpace.lit (rdl a0.Parts 1)) 0), (6, 32, .rows (a0.Parts.map TSpace.cells)), (5, 31, .ptr 0 1 3 0 2), (4, 30, .agg (TWeight.lit t11_4)), (3, 29, .agg (TSpace.lit (rdl a0.Parts 0))), (2, 28, .cptr (TSpace.lit (rdl a0.Parts 0)) 0), (1, 27, .rows (a0.Parts.map TSpace.cells)), (0, 26, .ptr 0 1 3 0 2)] [(12, 2, ⟨6, [[bo false, i6 0, u6 0, nul, nul, .own 3 ([t11_4, t11_9].length)]], 0, none⟩), (10, 3, ⟨6, [t11_4, t11_9].map TWeight.cells, 0, none⟩)] [[], [0], [1, 0], [2, 1, 0], [3, 2, 1, 0], [], [5], [6, 5], [7, 6, 5], [8, 7, 6, 5, 4, 3, 2, 1, 0], [4, 3, 2, 1, 0, 9, 8, 7, 6, 5], [0, 1, 2, 3, 4, 5, 6, 7, 8, 9, 10], [11, 0, 1, 2, 3, 4, 5, 6, 7, 8, 9, 10]] (by rfl) (by rfl) (by rfl) (by exact ⟨oP (fun _ => faP fa25_2 q) q, oP (fun _ => ldP q sz23 ag23 q) q, oP (fun _ => ixR (l := a0.Parts) (lit := TSpace.lit) sl23 q q TSpace.cells_lit g11_2.1 g11_2.2) q, oP (fun _ => ldCG q sz25 ag25 q) q, fun S hS hD hn => .oneI hS hD hn q q (callee_of q go40 q) (.pure q q (hs40 _ _ g11_4)) q q q, oP (fun _ => faP fa25_2 q) q, oP (fun _ => ldP q sz23 ag23 q) q, oP (fun _ => ixR (l := a0.Parts) (lit := TSpace.lit) sl23 q q TSpace.cells_lit g11_7.1 g11_7.2) q, oP (fun _ => ldCG q sz25 ag25 q) q, fun S hS hD hn => .oneI hS hD hn q q (callee_of q go40 q) (.pure q q (hs40 _ _ g11_9)) q q q, oW 3 (fun _ => bldT (s := 6) (cs := [bo t11_4.Zero, i6 t11_4.Cost, u6 t11_4.Facts.Gen, .rows (t11_4.Facts.Rows.map (cInt .u64)), .rows (t11_4.Cells.map TCell.cells), .rows (t11_4.Parts.map TWeight.cells), bo t11_9.Zero, i6 t11_9.Cost, u6 t11_9.Facts.Gen, .rows (t11_9.Facts.Rows.map (cInt .u64)), .rows (t11_9.Cells.map TCell.cells), .rows (t11_9.Parts.map TWeight.cells)]) (cf := TWeight.cells) [t11_4, t11_9] un31 sz33 ze33 ⟨by decide, q, by decide⟩ q q q (by simp only [List.map, TWeight.cells_lit]; rfl) q) q fun _ => q, oP (fun _ => faP fa33_4 q) q, fun S hS hD hn => .one0 0 q q (stB (cs0 := GD_c0) (cs := [.own 3 ([t11_4, t11_9].length)]) (cs1 := [bo false, i6 0, u6 0, nul, nul, .own 3 ([t11_4, t11_9].length)]) q q sz31 q ⟨Nat.le_of_ble_eq_true q, q⟩ q) (drawE_other _ _ _ _ q) q, trivial⟩) _ (by exact ⟨.ptr q, .ptr q, trivial⟩) (by rfl)
        refine .inBlock<|.seq<|.reg0 q (.o (ldG q sz33 ag33 q)<|.o (stB (cs0 := GD_c0) (cs := [bo false, i6 0, u6 0, nul, nul, .own 3 ([t11_4, t11_9].length)]) (cs1 := [bo false, i6 0, u6 0, nul, nul, .own 3 ([t11_4, t11_9].length)]) q q sz33 q ⟨Nat.le_of_ble_eq_true q, q⟩ q)<|.nil0) ?_
        replace h := h.symm
        subst h
        refine .k [(2, .cptr [bo false, i6 0, u6 0, .rows (([] : List Int).map (cInt .u64)), .rows (([] : List TCell).map TCell.cells), .rows ([t11_4, t11_9].map TWeight.cells)] 0)] ⟨cFixP q q (.cons (.free q q)<|.cons (.free q q)<|.cons (.free q q)<|.cons (.nil)<|.cons (.nil)<|.cons (cFixO (l := [t11_4, t11_9]) sl31 q q q q)<|.nil), trivial⟩ ?_
        exact .ret q
      · rw [if_neg c3] at h
        refine .condF q (bn c3)<|.skip<|.inBlock<|.seq<|.reg0 q (.o (ldG q sz33 ag33 q)<|.o (stB (cs0 := GD_c0) (cs := GD_c0) (cs1 := GD_c0) q q sz33 q ⟨Nat.le_of_ble_eq_true q, q⟩ q)<|.nil0) ?_
        replace h := h.symm
        subst h
        refine .k [(2, .cptr [bo false, i6 0, u6 0, .rows (([] : List Int).map (cInt .u64)), .rows (([] : List TCell).map TCell.cells), .rows (([] : List TWeight).map TWeight.cells)] 0)] ⟨cFixP q q (.cons (.free q q)<|.cons (.free q q)<|.cons (.free q q)<|.cons (.nil)<|.cons (.nil)<|.cons (.nil)<|.nil), trivial⟩ ?_
        exact .ret q
def weight_one.fN : Nat → TSpace → TWeight → Prop
  | 0 => fun _ _ => False
  | n + 1 => weight_one.step (weight_one.fN n)
theorem weight_one.ND : ∀ (n : Nat) {a0 : TSpace} {r : TWeight} (h : weight_one.fN n a0 r), D Tryz.prog X (.callH 40 [.agg (TSpace.lit a0)] [] (.agg (TWeight.lit r)) [])
  | 0, _, _, h => h.elim
  | n + 1, _, _, h => weight_one.stepD (fun _ _ h => weight_one.ND n h) h
def weight_one.f (a0 : TSpace) (r : TWeight) : Prop := ∃ n, weight_one.fN n a0 r
theorem weight_one.D {a0 r} (h : weight_one.f a0 r) : D Tryz.prog X (.callH 40 [.agg (TSpace.lit a0)] [] (.agg (TWeight.lit r)) []) := by obtain ⟨n, h⟩ := h; exact weight_one.ND n h
end Go.RM.Tryz
