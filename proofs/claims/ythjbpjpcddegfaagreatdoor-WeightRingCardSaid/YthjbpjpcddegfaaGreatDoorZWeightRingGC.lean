/- GC, for the statement WeightRing: what it needs, no more. -/
import Derived.Test.YthjbpjpcddegfaaGreatDoorZWeightRingGB
set_option linter.unusedVariables false
set_option maxRecDepth 8000
set_option maxHeartbeats 4000000
namespace Go.RM.Tryz
open Go.RM Go.Proofs
def l05_smallSpace.b1 (self9 : TSpace → Int → Bool → Prop) (a0 : TSpace) (a1 : Int) : Int → Rnd Int Unit Bool → Prop := fun x1 z1 => if x1 < (a0.Parts.length : Int) then (((InR x1 a0.Parts.length)) ∧ ∃ t14_7 : Bool, (self9 (rdl a0.Parts x1) (IntKind.i64.wrap (a1 + 1)) t14_7) ∧ if t14_7 = true then (z1 = .next (IntKind.i64.wrap (x1 + 1))) else (z1 = .ret false)) else (z1 = .exit ())
def l05_smallSpace.step (self9 : TSpace → Int → Bool → Prop) (a0 : TSpace) (a1 : Int) (r : Bool) : Prop :=
  if ((decide ((a0.Parts.length : Int) > 3)) || (decide (a1 > 3))) = true then (r = false) else (∃ o1 : Fin Unit Bool, Loop (l05_smallSpace.b1 self9 a0 a1) 0 o1 ∧ o1.on (fun _ => r = true) (fun r_ => r = r_))
theorem l05_smallSpace.stepD {self9 : TSpace → Int → Bool → Prop} {a0 : TSpace} {a1 : Int} (hs9 : ∀ z0_ z1_ r_, self9 z0_ z1_ r_ → D Tryz.prog X (.callH 9 [.agg (TSpace.lit z0_), .val (.int .i64 z1_)] [] (.val (.bool r_)) [])) {r : Bool} (h : l05_smallSpace.step self9 a0 a1 r) : D Tryz.prog X (.callH 9 [.agg (TSpace.lit a0), .val (.int .i64 a1)] [] (.val (.bool r)) []) := by
  unfold l05_smallSpace.step at h
  refine .enter 30 0 fn9 q q q<|.seq<|.room 0<|.reg0 q (.o (bxP (s := 3) (cs := (TSpace.lit a0)) q ⟨q, by decide, q⟩ q)<|.o (asV q)<|.nil0)<|.seq<|.seq ?_
  refine .reg0 (e1 := listEnv [(1, i6 a1), (2, .ptr 0 1 3 0 0), (13, bo ((decide ((a0.Parts.length : Int) > 3)) || (decide (a1 > 3))))]) (H1 := [⟨3, [(TSpace.lit a0)], 0, none⟩]) q ?_ ?_
  · refine .o (faP fa25_2 q)<|.o (ldP q sz23 ag23 q)<|.o (lnR (l := a0.Parts) sl23 q)<|.o (gtI q q)<|.m q<|?_
    by_cases c1 : (a0.Parts.length : Int) > 3
    · exact (.n q (dt c1)<|.n q (dt c1)<|.o (pkTV q (dt c1) q)<|.nilL _ ⟨.free q q, .ptr q, cB q (mOrT (dt c1)), trivial⟩)
    · exact (.g q (df c1) (mvV q)<|.g q (df c1) (gtI q q)<|.o (pkFV q (df c1) q)<|.nilL _ ⟨.free q q, .ptr q, cB q (mOrF (df c1) q), trivial⟩)
  by_cases c2 : ((decide ((a0.Parts.length : Int) > 3)) || (decide (a1 > 3))) = true
  · rw [if_pos c2] at h
    refine .condT q c2<|.seq<|.reg0 q (.o (asV q)<|.nil0) ?_
    replace h := h.symm
    subst h
    refine .kf [(4, bo false)] q q ?_
    exact .ret q
  · rw [if_neg c2] at h
    refine .condF q (nb c2)<|.skip<|.seq<|.seq<|.reg0 q (.o (asV q)<|.nil0)<|.block<|.keepL [0] [(1, i6 a1), (2, .ptr 0 1 3 0 0), (5, i6 0)] [⟨3, [(TSpace.lit a0)], 0, none⟩] (by decide) (by decide) ⟨.free q q, .ptr q, .free q q, trivial⟩ ⟨⟨_, q, bcBox (all2_free q)⟩, trivial⟩ ?_
    obtain ⟨o1, hL1, h⟩ := h
    refine .loopB (l05_smallSpace.b1 self9 a0 a1) (fun x1 => listEnv [(1, i6 a1), (2, .ptr 0 1 3 0 0), (5, i6 x1)]) (fun x1 => [⟨3, [(TSpace.lit a0)], 0, none⟩]) (fun _ => listEnv []) (fun _ => []) hL1 (fun r_ => r = r_) ?_ ?_ ?_
    · rintro ⟨⟩ rfl
      try dsimp only [Fin.on] at h
      refine .seq<|.reg0 q (.o (asV q)<|.nil0) ?_
      replace h := h.symm
      subst h
      refine .kf [(4, bo true)] q q ?_
      exact .ret q
    · rintro r_ rfl
      exact h
    · rintro x1 z1 h hn1 hx1 hr1
      dsimp only [l05_smallSpace.b1] at h
      refine .seq<|.seq<|.reg0 q (.o (mvV q)<|.o (faP fa25_2 q)<|.o (ldP q sz23 ag23 q)<|.o (lnR (l := a0.Parts) sl23 q)<|.o (ltI q q)<|.nil0) ?_
      by_cases c7 : x1 < (a0.Parts.length : Int)
      · rw [if_pos c7] at h
        refine .condT q (dt c7)<|.skip<|.seq<|.block<|.seq ?_
        obtain ⟨g14_3, h⟩ := h
        obtain ⟨t14_7, g14_7, h⟩ := h
        refine .reg0 q (.o (faP fa25_2 q)<|.o (ldP q sz23 ag23 q)<|.m q<|.o (ixR (l := a0.Parts) (lit := TSpace.lit) sl23 q q TSpace.cells_lit g14_3.1 g14_3.2)<|.o (ldCG q sz25 ag25 q)<|.m q<|.o (addI q q)<|.c q go9 q q q (hs9 _ _ _ g14_7)<|.o (notB q)<|.nil0) ?_
        by_cases c8 : t14_7 = true
        · rw [if_pos c8] at h
          refine .condF q (bnotF c8)<|.skip<|.inBlock<|.reg0 q (.o (mvV q)<|.o (addI q q)<|.o (asV q)<|.nil0)<|.keepL [0] [(1, i6 a1), (2, .ptr 0 1 3 0 0), (5, i6 (IntKind.i64.wrap (x1 + 1)))] [⟨3, [(TSpace.lit a0)], 0, none⟩] (by decide) (by decide) ⟨.free q q, .ptr q, .free q q, trivial⟩ ⟨⟨_, q, bcBox (all2_free q)⟩, trivial⟩ ?_
          exact hn1 _ h
        · rw [if_neg c8] at h
          refine .condT q (bnotT (nb c8))<|.seq<|.reg0 q (.o (asV q)<|.nil0) ?_
          have q3 := hr1 _ h
          replace q3 := q3.symm
          subst q3
          refine .kf [(4, bo false)] q q ?_
          exact .ret q
      · rw [if_neg c7] at h
        refine .condF q (df c7)<|.exit q<|.keepL [] [] [] (by decide) (by decide) trivial trivial ?_
        exact hx1 _ h
def l05_smallSpace.fN : Nat → TSpace → Int → Bool → Prop
  | 0 => fun _ _ _ => False
  | n + 1 => l05_smallSpace.step (l05_smallSpace.fN n)
theorem l05_smallSpace.ND : ∀ (n : Nat) {a0 : TSpace} {a1 : Int} {r : Bool} (h : l05_smallSpace.fN n a0 a1 r), D Tryz.prog X (.callH 9 [.agg (TSpace.lit a0), .val (.int .i64 a1)] [] (.val (.bool r)) [])
  | 0, _, _, _, h => h.elim
  | n + 1, _, _, _, h => l05_smallSpace.stepD (fun _ _ _ h => l05_smallSpace.ND n h) h
def l05_smallSpace.f (a0 : TSpace) (a1 : Int) (r : Bool) : Prop := ∃ n, l05_smallSpace.fN n a0 a1 r
theorem l05_smallSpace.D {a0 a1 r} (h : l05_smallSpace.f a0 a1 r) : D Tryz.prog X (.callH 9 [.agg (TSpace.lit a0), .val (.int .i64 a1)] [] (.val (.bool r)) []) := by obtain ⟨n, h⟩ := h; exact l05_smallSpace.ND n h
def l05_small.b1 (self10 : TWeight → Int → Bool → Prop) (a0 : TWeight) (a1 : Int) : Int → Rnd Int Unit Bool → Prop := fun x1 z1 => if x1 < (a0.Parts.length : Int) then (((InR x1 a0.Parts.length)) ∧ ∃ t14_7 : Bool, (self10 (rdl a0.Parts x1) (IntKind.i64.wrap (a1 + 1)) t14_7) ∧ if t14_7 = true then (z1 = .next (IntKind.i64.wrap (x1 + 1))) else (z1 = .ret false)) else (z1 = .exit ())
def l05_small.step (self10 : TWeight → Int → Bool → Prop) (a0 : TWeight) (a1 : Int) (r : Bool) : Prop :=
  if ((decide ((a0.Facts.Rows.length : Int) > 70)) || ((decide ((a0.Cells.length : Int) > 70)) || ((decide ((a0.Parts.length : Int) > 3)) || (decide (a1 > 3))))) = true then (r = false) else (∃ o1 : Fin Unit Bool, Loop (l05_small.b1 self10 a0 a1) 0 o1 ∧ o1.on (fun _ => r = true) (fun r_ => r = r_))
theorem l05_small.stepD {self10 : TWeight → Int → Bool → Prop} {a0 : TWeight} {a1 : Int} (hs10 : ∀ z0_ z1_ r_, self10 z0_ z1_ r_ → D Tryz.prog X (.callH 10 [.agg (TWeight.lit z0_), .val (.int .i64 z1_)] [] (.val (.bool r_)) [])) {r : Bool} (h : l05_small.step self10 a0 a1 r) : D Tryz.prog X (.callH 10 [.agg (TWeight.lit a0), .val (.int .i64 a1)] [] (.val (.bool r)) []) := by
  unfold l05_small.step at h
  refine .enter 43 0 fn10 q q q<|.seq<|.room 0<|.reg0 q (.o (bxP (s := 6) (cs := (TWeight.lit a0)) q ⟨q, by decide, q⟩ q)<|.o (asV q)<|.nil0)<|.seq<|.seq ?_
  refine .reg0 (e1 := listEnv [(1, i6 a1), (2, .ptr 0 1 6 0 0), (26, bo ((decide ((a0.Facts.Rows.length : Int) > 70)) || ((decide ((a0.Cells.length : Int) > 70)) || ((decide ((a0.Parts.length : Int) > 3)) || (decide (a1 > 3))))))]) (H1 := [⟨6, [(TWeight.lit a0)], 0, none⟩]) q ?_ ?_
  · refine .o (faP fa33_2 q)<|.o (faP fa29_1 q)<|.o (ldP q sz27 ag27 q)<|.o (lnR (l := a0.Facts.Rows) sl27 q)<|.o (gtI q q)<|.m q<|?_
    by_cases c1 : (a0.Facts.Rows.length : Int) > 70
    · exact (.n q (dt c1)<|.n q (dt c1)<|.n q (dt c1)<|.n q (dt c1)<|.o (pkTV q (dt c1) q)<|.m q<|.n q q<|.n q q<|.n q q<|.n q q<|.o (pkTV q q q)<|.m q<|.n q q<|.n q q<|.o (pkTV q q q)<|.nilL _ ⟨.free q q, .ptr q, cB q (mOrT (dt c1)), trivial⟩)
    · refine .g q (df c1) (faP fa33_3 q)<|.g q (df c1) (ldP q sz30 ag30 q)<|.g q (df c1) (lnR (l := a0.Cells) sl30 q)<|.g q (df c1) (gtI q q)<|.o (pkFV q (df c1) q)<|.m q<|?_
      by_cases c2 : (a0.Cells.length : Int) > 70
      · exact (.n q (dt c2)<|.n q (dt c2)<|.n q (dt c2)<|.n q (dt c2)<|.o (pkTV q (dt c2) q)<|.m q<|.n q q<|.n q q<|.o (pkTV q q q)<|.nilL _ ⟨.free q q, .ptr q, cB q (mOrF (df c1) (mOrT (dt c2))), trivial⟩)
      · refine .g q (df c2) (faP fa33_4 q)<|.g q (df c2) (ldP q sz31 ag31 q)<|.g q (df c2) (lnR (l := a0.Parts) sl31 q)<|.g q (df c2) (gtI q q)<|.o (pkFV q (df c2) q)<|.m q<|?_
        by_cases c3 : (a0.Parts.length : Int) > 3
        · exact (.n q (dt c3)<|.n q (dt c3)<|.o (pkTV q (dt c3) q)<|.nilL _ ⟨.free q q, .ptr q, cB q (mOrF (df c1) (mOrF (df c2) (mOrT (dt c3)))), trivial⟩)
        · exact (.g q (df c3) (mvV q)<|.g q (df c3) (gtI q q)<|.o (pkFV q (df c3) q)<|.nilL _ ⟨.free q q, .ptr q, cB q (mOrF (df c1) (mOrF (df c2) (mOrF (df c3) q))), trivial⟩)
  by_cases c4 : ((decide ((a0.Facts.Rows.length : Int) > 70)) || ((decide ((a0.Cells.length : Int) > 70)) || ((decide ((a0.Parts.length : Int) > 3)) || (decide (a1 > 3))))) = true
  · rw [if_pos c4] at h
    refine .condT q c4<|.seq<|.reg0 q (.o (asV q)<|.nil0) ?_
    replace h := h.symm
    subst h
    refine .kf [(4, bo false)] q q ?_
    exact .ret q
  · rw [if_neg c4] at h
    refine .condF q (nb c4)<|.skip<|.seq<|.seq<|.reg0 q (.o (asV q)<|.nil0)<|.block<|.keepL [0] [(1, i6 a1), (2, .ptr 0 1 6 0 0), (5, i6 0)] [⟨6, [(TWeight.lit a0)], 0, none⟩] (by decide) (by decide) ⟨.free q q, .ptr q, .free q q, trivial⟩ ⟨⟨_, q, bcBox (all2_free q)⟩, trivial⟩ ?_
    obtain ⟨o1, hL1, h⟩ := h
    refine .loopB (l05_small.b1 self10 a0 a1) (fun x1 => listEnv [(1, i6 a1), (2, .ptr 0 1 6 0 0), (5, i6 x1)]) (fun x1 => [⟨6, [(TWeight.lit a0)], 0, none⟩]) (fun _ => listEnv []) (fun _ => []) hL1 (fun r_ => r = r_) ?_ ?_ ?_
    · rintro ⟨⟩ rfl
      try dsimp only [Fin.on] at h
      refine .seq<|.reg0 q (.o (asV q)<|.nil0) ?_
      replace h := h.symm
      subst h
      refine .kf [(4, bo true)] q q ?_
      exact .ret q
    · rintro r_ rfl
      exact h
    · rintro x1 z1 h hn1 hx1 hr1
      dsimp only [l05_small.b1] at h
      refine .seq<|.seq<|.reg0 q (.o (mvV q)<|.o (faP fa33_4 q)<|.o (ldP q sz31 ag31 q)<|.o (lnR (l := a0.Parts) sl31 q)<|.o (ltI q q)<|.nil0) ?_
      by_cases c9 : x1 < (a0.Parts.length : Int)
      · rw [if_pos c9] at h
        refine .condT q (dt c9)<|.skip<|.seq<|.block<|.seq ?_
        obtain ⟨g14_3, h⟩ := h
        obtain ⟨t14_7, g14_7, h⟩ := h
        refine .reg0 q (.o (faP fa33_4 q)<|.o (ldP q sz31 ag31 q)<|.m q<|.o (ixR (l := a0.Parts) (lit := TWeight.lit) sl31 q q TWeight.cells_lit g14_3.1 g14_3.2)<|.o (ldCG q sz33 ag33 q)<|.m q<|.o (addI q q)<|.c q go10 q q q (hs10 _ _ _ g14_7)<|.o (notB q)<|.nil0) ?_
        by_cases c10 : t14_7 = true
        · rw [if_pos c10] at h
          refine .condF q (bnotF c10)<|.skip<|.inBlock<|.reg0 q (.o (mvV q)<|.o (addI q q)<|.o (asV q)<|.nil0)<|.keepL [0] [(1, i6 a1), (2, .ptr 0 1 6 0 0), (5, i6 (IntKind.i64.wrap (x1 + 1)))] [⟨6, [(TWeight.lit a0)], 0, none⟩] (by decide) (by decide) ⟨.free q q, .ptr q, .free q q, trivial⟩ ⟨⟨_, q, bcBox (all2_free q)⟩, trivial⟩ ?_
          exact hn1 _ h
        · rw [if_neg c10] at h
          refine .condT q (bnotT (nb c10))<|.seq<|.reg0 q (.o (asV q)<|.nil0) ?_
          have q3 := hr1 _ h
          replace q3 := q3.symm
          subst q3
          refine .kf [(4, bo false)] q q ?_
          exact .ret q
      · rw [if_neg c9] at h
        refine .condF q (df c9)<|.exit q<|.keepL [] [] [] (by decide) (by decide) trivial trivial ?_
        exact hx1 _ h
def l05_small.fN : Nat → TWeight → Int → Bool → Prop
  | 0 => fun _ _ _ => False
  | n + 1 => l05_small.step (l05_small.fN n)
theorem l05_small.ND : ∀ (n : Nat) {a0 : TWeight} {a1 : Int} {r : Bool} (h : l05_small.fN n a0 a1 r), D Tryz.prog X (.callH 10 [.agg (TWeight.lit a0), .val (.int .i64 a1)] [] (.val (.bool r)) [])
  | 0, _, _, _, h => h.elim
  | n + 1, _, _, _, h => l05_small.stepD (fun _ _ _ h => l05_small.ND n h) h
def l05_small.f (a0 : TWeight) (a1 : Int) (r : Bool) : Prop := ∃ n, l05_small.fN n a0 a1 r
theorem l05_small.D {a0 a1 r} (h : l05_small.f a0 a1 r) : D Tryz.prog X (.callH 10 [.agg (TWeight.lit a0), .val (.int .i64 a1)] [] (.val (.bool r)) []) := by obtain ⟨n, h⟩ := h; exact l05_small.ND n h
def r05_Space.b1 (self30 : TSpace → Int → Prop) (a0 : TSpace) : (Bool × Int) → Rnd ((Bool × Int)) Bool Int → Prop := fun (x2, x3) z1 => if ((decide (x3 < (a0.Parts.length : Int))) && x2) = true then (((InR x3 a0.Parts.length)) ∧ (¬ ((rdl a0.Parts x3).Tag = 5) → (InR x3 a0.Parts.length)) ∧ ∃ t30_13 : Int, (¬ ((rdl a0.Parts x3).Tag = 5) → self30 (rdl a0.Parts x3) t30_13) ∧ z1 = .next (((!((rdl a0.Parts x3).Tag == 5)) && (t30_13 == 0)), (IntKind.i64.wrap (x3 + 1)))) else (z1 = .exit x2)
def r05_Space.j1 (self30 : TSpace → Int → Prop) (a0 : TSpace) : Bool → Int → Prop := fun x1 r => if x1 = true then (if ((decide (a0.Dim ≥ 0)) && ((decide (a0.Dim ≤ 64)) && ((a0.Parts.length : Int) == 0))) = true then (r = 0) else (r = 50)) else (if a0.Tag = 5 then (∃ o1 : Fin Bool Int, Loop (r05_Space.b1 self30 a0) (((a0.Dim == 0) && ((a0.Parts.length : Int) == 2)), 0) o1 ∧ o1.on (fun x4 => if x4 = true then (r = 0) else (r = 50)) (fun r_ => r = r_)) else (r = 50))
def r05_Space.step (self30 : TSpace → Int → Prop) (a0 : TSpace) (r : Int) : Prop :=
  if a0.Tag = 1 then (if ((a0.Dim == 0) && ((a0.Parts.length : Int) == 0)) = true then (r = 0) else (r = 50)) else (if a0.Tag = 2 then (if ((decide (a0.Dim ≥ 0)) && ((decide (a0.Dim ≤ 1048576)) && ((a0.Parts.length : Int) == 0))) = true then (r = 0) else (r = 50)) else (if a0.Tag = 3 then (r05_Space.j1 self30 a0 (a0.Tag == 3) r) else (r05_Space.j1 self30 a0 (a0.Tag == 4) r)))
theorem r05_Space.stepD {self30 : TSpace → Int → Prop} {a0 : TSpace} (hs30 : ∀ z0_ r_, self30 z0_ r_ → D Tryz.prog X (.callH 30 [.agg (TSpace.lit z0_)] [] (.val (.int .i64 r_)) [])) {r : Int} (h : r05_Space.step self30 a0 r) : D Tryz.prog X (.callH 30 [.agg (TSpace.lit a0)] [] (.val (.int .i64 r)) []) := by
  unfold r05_Space.step at h
  refine .enter 90 0 fn30 q q q<|.seq<|.room 0<|.reg0 q (.o (bxP (s := 3) (cs := (TSpace.lit a0)) q ⟨q, by decide, q⟩ q)<|.o (asV q)<|.nil0)<|.seq<|.reg0 q (.o (asV q)<|.nil0)<|.seq<|.seq<|.reg0 q (.o (faP fa25_0 q)<|.o (ldP q sz22 ag22 q)<|.nil0)<|.block<|.seq<|.reg0 q (.o (eqI q q)<|.o (asV q)<|.nil0) ?_
  by_cases c1 : a0.Tag = 1
  · rw [if_pos c1] at h
    refine .condT q (bt c1) ?_
    refine .reg0 (e1 := listEnv [(3, bo ((a0.Dim == 0) && ((a0.Parts.length : Int) == 0)))]) (H1 := [⟨3, [(TSpace.lit a0)], 0, none⟩]) q ?_ ?_
    · refine .o (faP fa25_1 q)<|.o (ldP q sz3 ag3 q)<|.o (eqI q q)<|.m q<|?_
      by_cases c2 : a0.Dim = 0
      · exact (.g q (bt c2) (faP fa25_2 q)<|.g q (bt c2) (ldP q sz23 ag23 q)<|.g q (bt c2) (lnR (l := a0.Parts) sl23 q)<|.g q (bt c2) (eqI q q)<|.o (pkTV q (bt c2) q)<|.a q<|.nilL _ ⟨cB q (mAndT (bt c2) q), trivial⟩)
      · exact (.n q (bn c2)<|.n q (bn c2)<|.n q (bn c2)<|.n q (bn c2)<|.o (pkFV q (bn c2) q)<|.a q<|.nilL _ ⟨cB q (mAndF (bn c2)), trivial⟩)
    refine .inBlock<|.seq<|.seq<|.reg0 q (.o (mvV q)<|.o (notB q)<|.nil0) ?_
    by_cases c3 : ((a0.Dim == 0) && ((a0.Parts.length : Int) == 0)) = true
    · rw [if_pos c3] at h
      refine .condF q (bnotF c3)<|.skip<|.seq<|.reg0 q (.o (asV q)<|.nil0) ?_
      replace h := h.symm
      subst h
      refine .kf [(2, i6 0)] q q ?_
      exact .ret q
    · rw [if_neg c3] at h
      refine .condT q (bnotT (nb c3))<|.seq<|.reg0 q (.o (asV q)<|.nil0) ?_
      replace h := h.symm
      subst h
      refine .kf [(2, i6 50)] q q ?_
      exact .ret q
  · rw [if_neg c1] at h
    refine .condF q (bn c1)<|.seq<|.reg0 q (.o (eqI q q)<|.o (asV q)<|.nil0) ?_
    by_cases c4 : a0.Tag = 2
    · rw [if_pos c4] at h
      refine .condT q (bt c4) ?_
      refine .reg0 (e1 := listEnv [(3, bo ((decide (a0.Dim ≥ 0)) && ((decide (a0.Dim ≤ 1048576)) && ((a0.Parts.length : Int) == 0))))]) (H1 := [⟨3, [(TSpace.lit a0)], 0, none⟩]) q ?_ ?_
      · refine .o (faP fa25_1 q)<|.o (ldP q sz3 ag3 q)<|.o (geI q q)<|.m q<|?_
        by_cases c5 : a0.Dim ≥ 0
        · refine .g q (dt c5) (faP fa25_1 q)<|.g q (dt c5) (ldP q sz3 ag3 q)<|.g q (dt c5) (leI q q)<|.o (pkTV q (dt c5) q)<|.m q<|?_
          by_cases c6 : a0.Dim ≤ 1048576
          · exact (.g q (dt c6) (faP fa25_2 q)<|.g q (dt c6) (ldP q sz23 ag23 q)<|.g q (dt c6) (lnR (l := a0.Parts) sl23 q)<|.g q (dt c6) (eqI q q)<|.o (pkTV q (dt c6) q)<|.a q<|.nilL _ ⟨cB q (mAndT (dt c5) (mAndT (dt c6) q)), trivial⟩)
          · exact (.n q (df c6)<|.n q (df c6)<|.n q (df c6)<|.n q (df c6)<|.o (pkFV q (df c6) q)<|.a q<|.nilL _ ⟨cB q (mAndT (dt c5) (mAndF (df c6))), trivial⟩)
        · exact (.n q (df c5)<|.n q (df c5)<|.n q (df c5)<|.o (pkFV q (df c5) q)<|.m q<|.n q q<|.n q q<|.n q q<|.n q q<|.o (pkFV q q q)<|.a q<|.nilL _ ⟨cB q (mAndF (df c5)), trivial⟩)
      refine .inBlock<|.seq<|.seq<|.reg0 q (.o (mvV q)<|.o (notB q)<|.nil0) ?_
      by_cases c7 : ((decide (a0.Dim ≥ 0)) && ((decide (a0.Dim ≤ 1048576)) && ((a0.Parts.length : Int) == 0))) = true
      · rw [if_pos c7] at h
        refine .condF q (bnotF c7)<|.skip<|.seq<|.reg0 q (.o (asV q)<|.nil0) ?_
        replace h := h.symm
        subst h
        refine .kf [(2, i6 0)] q q ?_
        exact .ret q
      · rw [if_neg c7] at h
        refine .condT q (bnotT (nb c7))<|.seq<|.reg0 q (.o (asV q)<|.nil0) ?_
        replace h := h.symm
        subst h
        refine .kf [(2, i6 50)] q q ?_
        exact .ret q
    · rw [if_neg c4] at h
      refine .condF q (bn c4)<|.seq<|.seq<|.reg0 q (.o (eqI q q)<|.o (asV q)<|.nil0) ?_
      refine .consJ (fun s_ => r05_Space.j1 self30 a0 s_ r) (fun x1 => listEnv [(1, .ptr 0 1 3 0 0), (6, i6 a0.Tag), (34, bo x1)]) (fun x1 => [⟨3, [(TSpace.lit a0)], 0, none⟩]) ?_ fun hJ1 => ?_
      · rintro x1 h
        unfold r05_Space.j1 at h
        try dsimp only at h
        by_cases c9 : x1 = true
        · rw [if_pos c9] at h
          refine .condT q c9 ?_
          refine .reg0 (e1 := listEnv [(3, bo ((decide (a0.Dim ≥ 0)) && ((decide (a0.Dim ≤ 64)) && ((a0.Parts.length : Int) == 0))))]) (H1 := [⟨3, [(TSpace.lit a0)], 0, none⟩]) q ?_ ?_
          · refine .o (faP fa25_1 q)<|.o (ldP q sz3 ag3 q)<|.o (geI q q)<|.m q<|?_
            by_cases c10 : a0.Dim ≥ 0
            · refine .g q (dt c10) (faP fa25_1 q)<|.g q (dt c10) (ldP q sz3 ag3 q)<|.g q (dt c10) (leI q q)<|.o (pkTV q (dt c10) q)<|.m q<|?_
              by_cases c11 : a0.Dim ≤ 64
              · exact (.g q (dt c11) (faP fa25_2 q)<|.g q (dt c11) (ldP q sz23 ag23 q)<|.g q (dt c11) (lnR (l := a0.Parts) sl23 q)<|.g q (dt c11) (eqI q q)<|.o (pkTV q (dt c11) q)<|.a q<|.nilL _ ⟨cB q (mAndT (dt c10) (mAndT (dt c11) q)), trivial⟩)
              · exact (.n q (df c11)<|.n q (df c11)<|.n q (df c11)<|.n q (df c11)<|.o (pkFV q (df c11) q)<|.a q<|.nilL _ ⟨cB q (mAndT (dt c10) (mAndF (df c11))), trivial⟩)
            · exact (.n q (df c10)<|.n q (df c10)<|.n q (df c10)<|.o (pkFV q (df c10) q)<|.m q<|.n q q<|.n q q<|.n q q<|.n q q<|.o (pkFV q q q)<|.a q<|.nilL _ ⟨cB q (mAndF (df c10)), trivial⟩)
          refine .inBlock<|.seq<|.seq<|.reg0 q (.o (mvV q)<|.o (notB q)<|.nil0) ?_
          by_cases c12 : ((decide (a0.Dim ≥ 0)) && ((decide (a0.Dim ≤ 64)) && ((a0.Parts.length : Int) == 0))) = true
          · rw [if_pos c12] at h
            refine .condF q (bnotF c12)<|.skip<|.seq<|.reg0 q (.o (asV q)<|.nil0) ?_
            replace h := h.symm
            subst h
            refine .kf [(2, i6 0)] q q ?_
            exact .ret q
          · rw [if_neg c12] at h
            refine .condT q (bnotT (nb c12))<|.seq<|.reg0 q (.o (asV q)<|.nil0) ?_
            replace h := h.symm
            subst h
            refine .kf [(2, i6 50)] q q ?_
            exact .ret q
        · rw [if_neg c9] at h
          refine .condF q (nb c9)<|.seq<|.reg0 q (.o (eqI q q)<|.o (asV q)<|.nil0) ?_
          by_cases c13 : a0.Tag = 5
          · rw [if_pos c13] at h
            refine .condT q (bt c13)<|.seq ?_
            refine .reg0 (e1 := listEnv [(1, .ptr 0 1 3 0 0), (3, bo ((a0.Dim == 0) && ((a0.Parts.length : Int) == 2)))]) (H1 := [⟨3, [(TSpace.lit a0)], 0, none⟩]) q ?_ ?_
            · refine .o (faP fa25_1 q)<|.o (ldP q sz3 ag3 q)<|.o (eqI q q)<|.m q<|?_
              by_cases c14 : a0.Dim = 0
              · exact (.g q (bt c14) (faP fa25_2 q)<|.g q (bt c14) (ldP q sz23 ag23 q)<|.g q (bt c14) (lnR (l := a0.Parts) sl23 q)<|.g q (bt c14) (eqI q q)<|.o (pkTV q (bt c14) q)<|.a q<|.nilL _ ⟨.ptr q, cB q (mAndT (bt c14) q), trivial⟩)
              · exact (.n q (bn c14)<|.n q (bn c14)<|.n q (bn c14)<|.n q (bn c14)<|.o (pkFV q (bn c14) q)<|.a q<|.nilL _ ⟨.ptr q, cB q (mAndF (bn c14)), trivial⟩)
            refine .seq<|.reg0 q (.o (asV q)<|.nil0)<|.block<|.keepL [0] [(1, .ptr 0 1 3 0 0), (3, bo ((a0.Dim == 0) && ((a0.Parts.length : Int) == 2))), (4, i6 0)] [⟨3, [(TSpace.lit a0)], 0, none⟩] (by decide) (by decide) ⟨.ptr q, .free q q, .free q q, trivial⟩ ⟨⟨_, q, bcBox (all2_free q)⟩, trivial⟩ ?_
            obtain ⟨o1, hL1, h⟩ := h
            refine .loopB (r05_Space.b1 self30 a0) (fun (x2, x3) => listEnv [(1, .ptr 0 1 3 0 0), (3, bo x2), (4, i6 x3)]) (fun (x2, x3) => [⟨3, [(TSpace.lit a0)], 0, none⟩]) (fun x4 => listEnv [(3, bo x4)]) (fun x4 => []) hL1 (fun r_ => r = r_) ?_ ?_ ?_
            · rintro x4 rfl
              try dsimp only [Fin.on] at h
              refine .inBlock<|.seq<|.seq<|.reg0 q (.o (mvV q)<|.o (notB q)<|.nil0) ?_
              by_cases c24 : x4 = true
              · rw [if_pos c24] at h
                refine .condF q (bnotF c24)<|.skip<|.seq<|.reg0 q (.o (asV q)<|.nil0) ?_
                replace h := h.symm
                subst h
                refine .kf [(2, i6 0)] q q ?_
                exact .ret q
              · rw [if_neg c24] at h
                refine .condT q (bnotT (nb c24))<|.seq<|.reg0 q (.o (asV q)<|.nil0) ?_
                replace h := h.symm
                subst h
                refine .kf [(2, i6 50)] q q ?_
                exact .ret q
            · rintro r_ rfl
              exact h
            · rintro ⟨x2, x3⟩ z1 h hn1 hx1 hr1
              dsimp only [r05_Space.b1] at h
              refine .seq<|.seq ?_
              refine .reg0 (e1 := listEnv [(1, .ptr 0 1 3 0 0), (3, bo x2), (4, i6 x3), (69, bo ((decide (x3 < (a0.Parts.length : Int))) && x2))]) (H1 := [⟨3, [(TSpace.lit a0)], 0, none⟩]) q ?_ ?_
              · refine .m q<|.o (faP fa25_2 q)<|.o (ldP q sz23 ag23 q)<|.o (lnR (l := a0.Parts) sl23 q)<|.o (ltI q q)<|.m q<|?_
                by_cases c21 : x3 < (a0.Parts.length : Int)
                · exact (.g q (dt c21) (mvV q)<|.o (pkTV q (dt c21) q)<|.nilL _ ⟨.ptr q, .free q q, .free q q, cB q (mAndT (dt c21) q), trivial⟩)
                · exact (.n q (df c21)<|.o (pkFV q (df c21) q)<|.nilL _ ⟨.ptr q, .free q q, .free q q, cB q (mAndF (df c21)), trivial⟩)
              by_cases c22 : ((decide (x3 < (a0.Parts.length : Int))) && x2) = true
              · rw [if_pos c22] at h
                refine .condT q c22<|.skip<|.seq<|.block ?_
                obtain ⟨g30_3, h⟩ := h
                obtain ⟨g30_11, h⟩ := h
                obtain ⟨t30_13, g30_13, h⟩ := h
                refine .reg0 (e1 := listEnv [(1, .ptr 0 1 3 0 0), (3, bo ((!((rdl a0.Parts x3).Tag == 5)) && (t30_13 == 0))), (4, i6 x3)]) (H1 := [⟨3, [(TSpace.lit a0)], 0, none⟩]) q ?_ ?_
                · refine .o (faP fa25_2 q)<|.o (ldP q sz23 ag23 q)<|.m q<|.o (ixR (l := a0.Parts) (lit := TSpace.lit) sl23 q q TSpace.cells_lit g30_3.1 g30_3.2)<|.o (faC fa25_0 q)<|.o (ldC q sz22 ag22 q)<|.o (neI q q)<|.m q<|?_
                  by_cases c23 : (rdl a0.Parts x3).Tag = 5
                  · exact (.n q (nf c23)<|.n q (nf c23)<|.n q (nf c23)<|.n q (nf c23)<|.n q (nf c23)<|.n q (nf c23)<|.n q (nf c23)<|.o (pkFV q (nf c23) q)<|.a q<|.nilL _ ⟨.ptr q, cB q (mAndF (bnotF (bt c23))), .free q q, trivial⟩)
                  · exact (.g q (nt c23) (faP fa25_2 q)<|.g q (nt c23) (ldP q sz23 ag23 q)<|.g q (nt c23) (mvV q)<|.g q (nt c23) (ixR (l := a0.Parts) (lit := TSpace.lit) sl23 q q TSpace.cells_lit (g30_11 c23).1 (g30_11 c23).2)<|.g q (nt c23) (ldCG q sz25 ag25 q)<|.callI (gT q q q (nt c23)) (callee_of q go30 q) (.pure q q (hs30 _ _ (g30_13 c23)))<|.g q (nt c23) (eqI q q)<|.o (pkTV q (nt c23) q)<|.a q<|.nilL _ ⟨.ptr q, cB q (mAndT (bnotT (bn c23)) q), .free q q, trivial⟩)
                refine .inBlock<|.reg0 q (.o (mvV q)<|.o (addI q q)<|.o (asV q)<|.nil0)<|.keepL [0] [(1, .ptr 0 1 3 0 0), (3, bo ((!((rdl a0.Parts x3).Tag == 5)) && (t30_13 == 0))), (4, i6 (IntKind.i64.wrap (x3 + 1)))] [⟨3, [(TSpace.lit a0)], 0, none⟩] (by decide) (by decide) ⟨.ptr q, .free q q, .free q q, trivial⟩ ⟨⟨_, q, bcBox (all2_free q)⟩, trivial⟩ ?_
                exact hn1 _ h
              · rw [if_neg c22] at h
                refine .condF q (nb c22)<|.exit q<|.keepL [] [(3, bo x2)] [] (by decide) (by decide) ⟨.free q q, trivial⟩ trivial ?_
                exact hx1 _ h
          · rw [if_neg c13] at h
            refine .condF q (bn c13)<|.reg0 q (.a q<|.nil0)<|.inBlock<|.seq<|.seq<|.reg0 q (.o (mvV q)<|.o (notB q)<|.nil0)<|.condT q (bnotT q)<|.seq<|.reg0 q (.o (asV q)<|.nil0) ?_
            replace h := h.symm
            subst h
            refine .kf [(2, i6 50)] q q ?_
            exact .ret q
      · by_cases c25 : a0.Tag = 3
        · rw [if_pos c25] at h
          refine .condT q (bt c25)<|.skip<|.keepL [0] [(1, .ptr 0 1 3 0 0), (6, i6 a0.Tag), (34, bo (a0.Tag == 3))] [⟨3, [(TSpace.lit a0)], 0, none⟩] (by decide) (by decide) ⟨.ptr q, .free q q, .free q q, trivial⟩ ⟨⟨_, q, bcBox (all2_free q)⟩, trivial⟩ ?_
          exact hJ1 _ h
        · rw [if_neg c25] at h
          refine .condF q (bn c25)<|.reg0 q (.o (eqI q q)<|.a q<|.nil0)<|.keepL [0] [(1, .ptr 0 1 3 0 0), (6, i6 a0.Tag), (34, bo (a0.Tag == 4))] [⟨3, [(TSpace.lit a0)], 0, none⟩] (by decide) (by decide) ⟨.ptr q, .free q q, .free q q, trivial⟩ ⟨⟨_, q, bcBox (all2_free q)⟩, trivial⟩ ?_
          exact hJ1 _ h
def r05_Space.fN : Nat → TSpace → Int → Prop
  | 0 => fun _ _ => False
  | n + 1 => r05_Space.step (r05_Space.fN n)
theorem r05_Space.ND : ∀ (n : Nat) {a0 : TSpace} {r : Int} (h : r05_Space.fN n a0 r), D Tryz.prog X (.callH 30 [.agg (TSpace.lit a0)] [] (.val (.int .i64 r)) [])
  | 0, _, _, h => h.elim
  | n + 1, _, _, h => r05_Space.stepD (fun _ _ h => r05_Space.ND n h) h
def r05_Space.f (a0 : TSpace) (r : Int) : Prop := ∃ n, r05_Space.fN n a0 r
theorem r05_Space.D {a0 r} (h : r05_Space.f a0 r) : D Tryz.prog X (.callH 30 [.agg (TSpace.lit a0)] [] (.val (.int .i64 r)) []) := by obtain ⟨n, h⟩ := h; exact r05_Space.ND n h
def r05_plain.f (a0 : TWeight) (a1 : Bool) (a2 : Bool) (a3 : Bool) (a4 : Bool) (r : Bool) : Prop :=
  r = (bif a1 then (bif a2 then (bif a3 then (a4 || ((a0.Parts.length : Int) == 0)) else (((a0.Cells.length : Int) == 0) && (a4 || ((a0.Parts.length : Int) == 0)))) else ((a0.Facts.Gen == 0) && (((a0.Facts.Rows.length : Int) == 0) && (bif a3 then (a4 || ((a0.Parts.length : Int) == 0)) else (((a0.Cells.length : Int) == 0) && (a4 || ((a0.Parts.length : Int) == 0))))))) else ((a0.Cost == 0) && (bif a2 then (bif a3 then (a4 || ((a0.Parts.length : Int) == 0)) else (((a0.Cells.length : Int) == 0) && (a4 || ((a0.Parts.length : Int) == 0)))) else ((a0.Facts.Gen == 0) && (((a0.Facts.Rows.length : Int) == 0) && (bif a3 then (a4 || ((a0.Parts.length : Int) == 0)) else (((a0.Cells.length : Int) == 0) && (a4 || ((a0.Parts.length : Int) == 0)))))))))
theorem r05_plain.D {a0 a1 a2 a3 a4 r} (h : r05_plain.f a0 a1 a2 a3 a4 r) : D Tryz.prog X (.callH 65 [.agg (TWeight.lit a0), .val (.bool a1), .val (.bool a2), .val (.bool a3), .val (.bool a4)] [] (.val (.bool r)) []) := by
  unfold r05_plain.f at h
  refine .enter 51 0 fn65 q q q<|.seq<|.room 0<|.reg0 q (.o (bxP (s := 6) (cs := (TWeight.lit a0)) q ⟨q, by decide, q⟩ q)<|.o (asV q)<|.nil0)<|.seq ?_
  refine .reg0 (e1 := listEnv [(10, bo (bif a1 then (bif a2 then (bif a3 then (a4 || ((a0.Parts.length : Int) == 0)) else (((a0.Cells.length : Int) == 0) && (a4 || ((a0.Parts.length : Int) == 0)))) else ((a0.Facts.Gen == 0) && (((a0.Facts.Rows.length : Int) == 0) && (bif a3 then (a4 || ((a0.Parts.length : Int) == 0)) else (((a0.Cells.length : Int) == 0) && (a4 || ((a0.Parts.length : Int) == 0))))))) else ((a0.Cost == 0) && (bif a2 then (bif a3 then (a4 || ((a0.Parts.length : Int) == 0)) else (((a0.Cells.length : Int) == 0) && (a4 || ((a0.Parts.length : Int) == 0)))) else ((a0.Facts.Gen == 0) && (((a0.Facts.Rows.length : Int) == 0) && (bif a3 then (a4 || ((a0.Parts.length : Int) == 0)) else (((a0.Cells.length : Int) == 0) && (a4 || ((a0.Parts.length : Int) == 0))))))))))]) (H1 := [⟨6, [(TWeight.lit a0)], 0, none⟩]) q ?_ ?_
  · refine .m q<|.m q<|?_
    by_cases c1 : a1 = true
    · refine .n q c1<|.n q c1<|.n q c1<|.o (pkTV q c1 q)<|.m q<|.g q q (mvV q)<|.g q q (mvV q)<|?_
      by_cases c2 : a2 = true
      · refine .n q c2<|.n q c2<|.n q c2<|.n q c2<|.n q c2<|.u q<|.u q<|.u q<|.u q<|.u q<|.n q c2<|.g q q (pkTV q c2 q)<|.o (pkTV q q q)<|.m q<|.g q q (mvV q)<|.g q q (mvV q)<|?_
        by_cases c3 : a3 = true
        · refine .n q c3<|.n q c3<|.n q c3<|.n q c3<|.g q q (pkTV q c3 q)<|.o (pkTV q q q)<|.m q<|.g q q (mvV q)<|.g q q (mvV q)<|?_
          by_cases c4 : a4 = true
          · exact (.n q c4<|.n q c4<|.n q c4<|.n q c4<|.g q q (pkTV q c4 q)<|.o (pkTV q q q)<|.a q<|.nilL _ ⟨cB q (mIteT c1 (mIteT c2 (mIteT c3 (mOrT c4)))), trivial⟩)
          · exact (.g q (nb c4) (faP fa33_4 q)<|.g q (nb c4) (ldP q sz31 ag31 q)<|.g q (nb c4) (lnR (l := a0.Parts) sl31 q)<|.g q (nb c4) (eqI q q)<|.g q q (pkFV q (nb c4) q)<|.o (pkTV q q q)<|.a q<|.nilL _ ⟨cB q (mIteT c1 (mIteT c2 (mIteT c3 (mOrF (nb c4) q)))), trivial⟩)
        · refine .g q (nb c3) (faP fa33_3 q)<|.g q (nb c3) (ldP q sz30 ag30 q)<|.g q (nb c3) (lnR (l := a0.Cells) sl30 q)<|.g q (nb c3) (eqI q q)<|.g q q (pkFV q (nb c3) q)<|.o (pkTV q q q)<|.m q<|?_
          by_cases c5 : (a0.Cells.length : Int) = 0
          · refine .g q (bt c5) (mvV q)<|.g q (bt c5) (mvV q)<|?_
            by_cases c6 : a4 = true
            · exact (.n q c6<|.n q c6<|.n q c6<|.n q c6<|.g q (bt c5) (pkTV q c6 q)<|.o (pkTV q (bt c5) q)<|.a q<|.nilL _ ⟨cB q (mIteT c1 (mIteT c2 (mIteF (nb c3) (mAndT (bt c5) (mOrT c6))))), trivial⟩)
            · exact (.g q (nb c6) (faP fa33_4 q)<|.g q (nb c6) (ldP q sz31 ag31 q)<|.g q (nb c6) (lnR (l := a0.Parts) sl31 q)<|.g q (nb c6) (eqI q q)<|.g q (bt c5) (pkFV q (nb c6) q)<|.o (pkTV q (bt c5) q)<|.a q<|.nilL _ ⟨cB q (mIteT c1 (mIteT c2 (mIteF (nb c3) (mAndT (bt c5) (mOrF (nb c6) q))))), trivial⟩)
          · exact (.n q (bn c5)<|.n q (bn c5)<|.u q<|.u q<|.u q<|.u q<|.n q (bn c5)<|.o (pkFV q (bn c5) q)<|.a q<|.nilL _ ⟨cB q (mIteT c1 (mIteT c2 (mIteF (nb c3) (mAndF (bn c5))))), trivial⟩)
      · refine .g q (nb c2) (faP fa33_2 q)<|.g q (nb c2) (faP fa29_0 q)<|.g q (nb c2) (ldP q sz26 ag26 q)<|.g q (nb c2) (eqI q q)<|.g q (nb c2) (mvV q)<|?_
        by_cases c7 : a0.Facts.Gen = 0
        · refine .g q (bt c7) (faP fa33_2 q)<|.g q (bt c7) (faP fa29_1 q)<|.g q (bt c7) (ldP q sz27 ag27 q)<|.g q (bt c7) (lnR (l := a0.Facts.Rows) sl27 q)<|.g q (bt c7) (eqI q q)<|.g q (nb c2) (pkTV q (bt c7) q)<|.g q q (pkFV q (nb c2) q)<|.o (pkTV q q q)<|.m q<|?_
          by_cases c8 : (a0.Facts.Rows.length : Int) = 0
          · refine .g q (bt c8) (mvV q)<|.g q (bt c8) (mvV q)<|?_
            by_cases c9 : a3 = true
            · refine .n q c9<|.n q c9<|.n q c9<|.n q c9<|.g q (bt c8) (pkTV q c9 q)<|.o (pkTV q (bt c8) q)<|.m q<|.g q q (mvV q)<|.g q q (mvV q)<|?_
              by_cases c10 : a4 = true
              · exact (.n q c10<|.n q c10<|.n q c10<|.n q c10<|.g q q (pkTV q c10 q)<|.o (pkTV q q q)<|.a q<|.nilL _ ⟨cB q (mIteT c1 (mIteF (nb c2) (mAndT (bt c7) (mAndT (bt c8) (mIteT c9 (mOrT c10)))))), trivial⟩)
              · exact (.g q (nb c10) (faP fa33_4 q)<|.g q (nb c10) (ldP q sz31 ag31 q)<|.g q (nb c10) (lnR (l := a0.Parts) sl31 q)<|.g q (nb c10) (eqI q q)<|.g q q (pkFV q (nb c10) q)<|.o (pkTV q q q)<|.a q<|.nilL _ ⟨cB q (mIteT c1 (mIteF (nb c2) (mAndT (bt c7) (mAndT (bt c8) (mIteT c9 (mOrF (nb c10) q)))))), trivial⟩)
            · refine .g q (nb c9) (faP fa33_3 q)<|.g q (nb c9) (ldP q sz30 ag30 q)<|.g q (nb c9) (lnR (l := a0.Cells) sl30 q)<|.g q (nb c9) (eqI q q)<|.g q (bt c8) (pkFV q (nb c9) q)<|.o (pkTV q (bt c8) q)<|.m q<|?_
              by_cases c11 : (a0.Cells.length : Int) = 0
              · refine .g q (bt c11) (mvV q)<|.g q (bt c11) (mvV q)<|?_
                by_cases c12 : a4 = true
                · exact (.n q c12<|.n q c12<|.n q c12<|.n q c12<|.g q (bt c11) (pkTV q c12 q)<|.o (pkTV q (bt c11) q)<|.a q<|.nilL _ ⟨cB q (mIteT c1 (mIteF (nb c2) (mAndT (bt c7) (mAndT (bt c8) (mIteF (nb c9) (mAndT (bt c11) (mOrT c12))))))), trivial⟩)
                · exact (.g q (nb c12) (faP fa33_4 q)<|.g q (nb c12) (ldP q sz31 ag31 q)<|.g q (nb c12) (lnR (l := a0.Parts) sl31 q)<|.g q (nb c12) (eqI q q)<|.g q (bt c11) (pkFV q (nb c12) q)<|.o (pkTV q (bt c11) q)<|.a q<|.nilL _ ⟨cB q (mIteT c1 (mIteF (nb c2) (mAndT (bt c7) (mAndT (bt c8) (mIteF (nb c9) (mAndT (bt c11) (mOrF (nb c12) q))))))), trivial⟩)
              · exact (.n q (bn c11)<|.n q (bn c11)<|.u q<|.u q<|.u q<|.u q<|.n q (bn c11)<|.o (pkFV q (bn c11) q)<|.a q<|.nilL _ ⟨cB q (mIteT c1 (mIteF (nb c2) (mAndT (bt c7) (mAndT (bt c8) (mIteF (nb c9) (mAndF (bn c11))))))), trivial⟩)
          · exact (.n q (bn c8)<|.n q (bn c8)<|.u q<|.u q<|.u q<|.u q<|.n q (bn c8)<|.o (pkFV q (bn c8) q)<|.m q<|.n q q<|.n q q<|.u q<|.u q<|.u q<|.u q<|.n q q<|.o (pkFV q q q)<|.a q<|.nilL _ ⟨cB q (mIteT c1 (mIteF (nb c2) (mAndT (bt c7) (mAndF (bn c8))))), trivial⟩)
        · exact (.n q (bn c7)<|.n q (bn c7)<|.n q (bn c7)<|.n q (bn c7)<|.n q (bn c7)<|.g q (nb c2) (pkFV q (bn c7) q)<|.g q q (pkFV q (nb c2) q)<|.o (pkTV q q q)<|.m q<|.n q q<|.n q q<|.u q<|.u q<|.u q<|.u q<|.n q q<|.o (pkFV q q q)<|.m q<|.n q q<|.n q q<|.u q<|.u q<|.u q<|.u q<|.n q q<|.o (pkFV q q q)<|.a q<|.nilL _ ⟨cB q (mIteT c1 (mIteF (nb c2) (mAndF (bn c7)))), trivial⟩)
    · refine .g q (nb c1) (faP fa33_1 q)<|.g q (nb c1) (ldP q sz3 ag3 q)<|.g q (nb c1) (eqI q q)<|.o (pkFV q (nb c1) q)<|.m q<|?_
      by_cases c13 : a0.Cost = 0
      · refine .g q (bt c13) (mvV q)<|.g q (bt c13) (mvV q)<|?_
        by_cases c14 : a2 = true
        · refine .n q c14<|.n q c14<|.n q c14<|.n q c14<|.n q c14<|.u q<|.u q<|.u q<|.u q<|.u q<|.n q c14<|.g q (bt c13) (pkTV q c14 q)<|.o (pkTV q (bt c13) q)<|.m q<|.g q q (mvV q)<|.g q q (mvV q)<|?_
          by_cases c15 : a3 = true
          · refine .n q c15<|.n q c15<|.n q c15<|.n q c15<|.g q q (pkTV q c15 q)<|.o (pkTV q q q)<|.m q<|.g q q (mvV q)<|.g q q (mvV q)<|?_
            by_cases c16 : a4 = true
            · exact (.n q c16<|.n q c16<|.n q c16<|.n q c16<|.g q q (pkTV q c16 q)<|.o (pkTV q q q)<|.a q<|.nilL _ ⟨cB q (mIteF (nb c1) (mAndT (bt c13) (mIteT c14 (mIteT c15 (mOrT c16))))), trivial⟩)
            · exact (.g q (nb c16) (faP fa33_4 q)<|.g q (nb c16) (ldP q sz31 ag31 q)<|.g q (nb c16) (lnR (l := a0.Parts) sl31 q)<|.g q (nb c16) (eqI q q)<|.g q q (pkFV q (nb c16) q)<|.o (pkTV q q q)<|.a q<|.nilL _ ⟨cB q (mIteF (nb c1) (mAndT (bt c13) (mIteT c14 (mIteT c15 (mOrF (nb c16) q))))), trivial⟩)
          · refine .g q (nb c15) (faP fa33_3 q)<|.g q (nb c15) (ldP q sz30 ag30 q)<|.g q (nb c15) (lnR (l := a0.Cells) sl30 q)<|.g q (nb c15) (eqI q q)<|.g q q (pkFV q (nb c15) q)<|.o (pkTV q q q)<|.m q<|?_
            by_cases c17 : (a0.Cells.length : Int) = 0
            · refine .g q (bt c17) (mvV q)<|.g q (bt c17) (mvV q)<|?_
              by_cases c18 : a4 = true
              · exact (.n q c18<|.n q c18<|.n q c18<|.n q c18<|.g q (bt c17) (pkTV q c18 q)<|.o (pkTV q (bt c17) q)<|.a q<|.nilL _ ⟨cB q (mIteF (nb c1) (mAndT (bt c13) (mIteT c14 (mIteF (nb c15) (mAndT (bt c17) (mOrT c18)))))), trivial⟩)
              · exact (.g q (nb c18) (faP fa33_4 q)<|.g q (nb c18) (ldP q sz31 ag31 q)<|.g q (nb c18) (lnR (l := a0.Parts) sl31 q)<|.g q (nb c18) (eqI q q)<|.g q (bt c17) (pkFV q (nb c18) q)<|.o (pkTV q (bt c17) q)<|.a q<|.nilL _ ⟨cB q (mIteF (nb c1) (mAndT (bt c13) (mIteT c14 (mIteF (nb c15) (mAndT (bt c17) (mOrF (nb c18) q)))))), trivial⟩)
            · exact (.n q (bn c17)<|.n q (bn c17)<|.u q<|.u q<|.u q<|.u q<|.n q (bn c17)<|.o (pkFV q (bn c17) q)<|.a q<|.nilL _ ⟨cB q (mIteF (nb c1) (mAndT (bt c13) (mIteT c14 (mIteF (nb c15) (mAndF (bn c17)))))), trivial⟩)
        · refine .g q (nb c14) (faP fa33_2 q)<|.g q (nb c14) (faP fa29_0 q)<|.g q (nb c14) (ldP q sz26 ag26 q)<|.g q (nb c14) (eqI q q)<|.g q (nb c14) (mvV q)<|?_
          by_cases c19 : a0.Facts.Gen = 0
          · refine .g q (bt c19) (faP fa33_2 q)<|.g q (bt c19) (faP fa29_1 q)<|.g q (bt c19) (ldP q sz27 ag27 q)<|.g q (bt c19) (lnR (l := a0.Facts.Rows) sl27 q)<|.g q (bt c19) (eqI q q)<|.g q (nb c14) (pkTV q (bt c19) q)<|.g q (bt c13) (pkFV q (nb c14) q)<|.o (pkTV q (bt c13) q)<|.m q<|?_
            by_cases c20 : (a0.Facts.Rows.length : Int) = 0
            · refine .g q (bt c20) (mvV q)<|.g q (bt c20) (mvV q)<|?_
              by_cases c21 : a3 = true
              · refine .n q c21<|.n q c21<|.n q c21<|.n q c21<|.g q (bt c20) (pkTV q c21 q)<|.o (pkTV q (bt c20) q)<|.m q<|.g q q (mvV q)<|.g q q (mvV q)<|?_
                by_cases c22 : a4 = true
                · exact (.n q c22<|.n q c22<|.n q c22<|.n q c22<|.g q q (pkTV q c22 q)<|.o (pkTV q q q)<|.a q<|.nilL _ ⟨cB q (mIteF (nb c1) (mAndT (bt c13) (mIteF (nb c14) (mAndT (bt c19) (mAndT (bt c20) (mIteT c21 (mOrT c22))))))), trivial⟩)
                · exact (.g q (nb c22) (faP fa33_4 q)<|.g q (nb c22) (ldP q sz31 ag31 q)<|.g q (nb c22) (lnR (l := a0.Parts) sl31 q)<|.g q (nb c22) (eqI q q)<|.g q q (pkFV q (nb c22) q)<|.o (pkTV q q q)<|.a q<|.nilL _ ⟨cB q (mIteF (nb c1) (mAndT (bt c13) (mIteF (nb c14) (mAndT (bt c19) (mAndT (bt c20) (mIteT c21 (mOrF (nb c22) q))))))), trivial⟩)
              · refine .g q (nb c21) (faP fa33_3 q)<|.g q (nb c21) (ldP q sz30 ag30 q)<|.g q (nb c21) (lnR (l := a0.Cells) sl30 q)<|.g q (nb c21) (eqI q q)<|.g q (bt c20) (pkFV q (nb c21) q)<|.o (pkTV q (bt c20) q)<|.m q<|?_
                by_cases c23 : (a0.Cells.length : Int) = 0
                · refine .g q (bt c23) (mvV q)<|.g q (bt c23) (mvV q)<|?_
                  by_cases c24 : a4 = true
                  · exact (.n q c24<|.n q c24<|.n q c24<|.n q c24<|.g q (bt c23) (pkTV q c24 q)<|.o (pkTV q (bt c23) q)<|.a q<|.nilL _ ⟨cB q (mIteF (nb c1) (mAndT (bt c13) (mIteF (nb c14) (mAndT (bt c19) (mAndT (bt c20) (mIteF (nb c21) (mAndT (bt c23) (mOrT c24)))))))), trivial⟩)
                  · exact (.g q (nb c24) (faP fa33_4 q)<|.g q (nb c24) (ldP q sz31 ag31 q)<|.g q (nb c24) (lnR (l := a0.Parts) sl31 q)<|.g q (nb c24) (eqI q q)<|.g q (bt c23) (pkFV q (nb c24) q)<|.o (pkTV q (bt c23) q)<|.a q<|.nilL _ ⟨cB q (mIteF (nb c1) (mAndT (bt c13) (mIteF (nb c14) (mAndT (bt c19) (mAndT (bt c20) (mIteF (nb c21) (mAndT (bt c23) (mOrF (nb c24) q)))))))), trivial⟩)
                · exact (.n q (bn c23)<|.n q (bn c23)<|.u q<|.u q<|.u q<|.u q<|.n q (bn c23)<|.o (pkFV q (bn c23) q)<|.a q<|.nilL _ ⟨cB q (mIteF (nb c1) (mAndT (bt c13) (mIteF (nb c14) (mAndT (bt c19) (mAndT (bt c20) (mIteF (nb c21) (mAndF (bn c23)))))))), trivial⟩)
            · exact (.n q (bn c20)<|.n q (bn c20)<|.u q<|.u q<|.u q<|.u q<|.n q (bn c20)<|.o (pkFV q (bn c20) q)<|.m q<|.n q q<|.n q q<|.u q<|.u q<|.u q<|.u q<|.n q q<|.o (pkFV q q q)<|.a q<|.nilL _ ⟨cB q (mIteF (nb c1) (mAndT (bt c13) (mIteF (nb c14) (mAndT (bt c19) (mAndF (bn c20)))))), trivial⟩)
          · exact (.n q (bn c19)<|.n q (bn c19)<|.n q (bn c19)<|.n q (bn c19)<|.n q (bn c19)<|.g q (nb c14) (pkFV q (bn c19) q)<|.g q (bt c13) (pkFV q (nb c14) q)<|.o (pkTV q (bt c13) q)<|.m q<|.n q q<|.n q q<|.u q<|.u q<|.u q<|.u q<|.n q q<|.o (pkFV q q q)<|.m q<|.n q q<|.n q q<|.u q<|.u q<|.u q<|.u q<|.n q q<|.o (pkFV q q q)<|.a q<|.nilL _ ⟨cB q (mIteF (nb c1) (mAndT (bt c13) (mIteF (nb c14) (mAndF (bn c19))))), trivial⟩)
      · exact (.n q (bn c13)<|.n q (bn c13)<|.u q<|.u q<|.u q<|.u q<|.u q<|.u q<|.u q<|.u q<|.u q<|.u q<|.u q<|.n q (bn c13)<|.o (pkFV q (bn c13) q)<|.m q<|.n q q<|.n q q<|.u q<|.u q<|.u q<|.u q<|.n q q<|.o (pkFV q q q)<|.m q<|.n q q<|.n q q<|.u q<|.u q<|.u q<|.u q<|.n q q<|.o (pkFV q q q)<|.a q<|.nilL _ ⟨cB q (mIteF (nb c1) (mAndF (bn c13))), trivial⟩)
  replace h := h.symm
  subst h
  refine .kf [(10, bo (bif a1 then (bif a2 then (bif a3 then (a4 || ((a0.Parts.length : Int) == 0)) else (((a0.Cells.length : Int) == 0) && (a4 || ((a0.Parts.length : Int) == 0)))) else ((a0.Facts.Gen == 0) && (((a0.Facts.Rows.length : Int) == 0) && (bif a3 then (a4 || ((a0.Parts.length : Int) == 0)) else (((a0.Cells.length : Int) == 0) && (a4 || ((a0.Parts.length : Int) == 0))))))) else ((a0.Cost == 0) && (bif a2 then (bif a3 then (a4 || ((a0.Parts.length : Int) == 0)) else (((a0.Cells.length : Int) == 0) && (a4 || ((a0.Parts.length : Int) == 0)))) else ((a0.Facts.Gen == 0) && (((a0.Facts.Rows.length : Int) == 0) && (bif a3 then (a4 || ((a0.Parts.length : Int) == 0)) else (((a0.Cells.length : Int) == 0) && (a4 || ((a0.Parts.length : Int) == 0))))))))))] q q ?_
  exact .ret q
def r03_dim.f (a0 : Int) (r : Bool) : Prop :=
  r = ((decide (a0 ≥ 0)) && (decide (a0 ≤ 64)))
theorem r03_dim.D {a0 r} (h : r03_dim.f a0 r) : D Tryz.prog X (.callH 111 [.val (.int .i64 a0)] [] (.val (.bool r)) []) := by
  unfold r03_dim.f at h
  refine .enter 9 0 fn111 q q q<|.seq<|.reg0 q (.o (asV q)<|.nil0)<|.seq ?_
  refine .reg0 (e1 := listEnv [(2, bo ((decide (a0 ≥ 0)) && (decide (a0 ≤ 64))))]) (H1 := []) q ?_ ?_
  · refine .m q<|.o (geI q q)<|.m q<|?_
    by_cases c1 : a0 ≥ 0
    · exact (.g q (dt c1) (mvV q)<|.g q (dt c1) (leI q q)<|.o (pkTV q (dt c1) q)<|.a q<|.nilL _ ⟨cB q (mAndT (dt c1) q), trivial⟩)
    · exact (.n q (df c1)<|.n q (df c1)<|.o (pkFV q (df c1) q)<|.a q<|.nilL _ ⟨cB q (mAndF (df c1)), trivial⟩)
  replace h := h.symm
  subst h
  refine .kf [(2, bo ((decide (a0 ≥ 0)) && (decide (a0 ≤ 64))))] q q ?_
  exact .ret q
def r01_Worth.b1 : (Int × Int) → Rnd ((Int × Int)) Int Int → Prop := fun (x1, x2) z1 => if x1 > 0 then (z1 = .next ((IntKind.i64.wrap (x1 - 1)), (IntKind.u64.wrap (x2 * 2)))) else (z1 = .exit x2)
def r01_Worth.f (a0 : Int) (r : Int) : Prop :=
  ∃ o1 : Fin Int Int, Loop (r01_Worth.b1) (a0, 1) o1 ∧ o1.on (fun x3 => r = x3) (fun r_ => r = r_)
theorem r01_Worth.D {a0 r} (h : r01_Worth.f a0 r) : D Tryz.prog X (.callH 85 [.val (.int .i64 a0)] [] (.val (.int .u64 r)) []) := by
  unfold r01_Worth.f at h
  refine .enter 11 0 fn85 q q q<|.seq<|.reg0 q (.o (asV q)<|.nil0)<|.seq<|.reg0 q (.o (asV q)<|.nil0)<|.seq<|.block<|.keepL [] [(0, i6 a0), (3, u6 1)] [] (by decide) (by decide) ⟨.free q q, .free q q, trivial⟩ trivial ?_
  obtain ⟨o1, hL1, h⟩ := h
  refine .loopB (r01_Worth.b1) (fun (x1, x2) => listEnv [(0, i6 x1), (3, u6 x2)]) (fun (x1, x2) => []) (fun x3 => listEnv [(3, u6 x3)]) (fun x3 => []) hL1 (fun r_ => r = r_) ?_ ?_ ?_
  · rintro x3 rfl
    try dsimp only [Fin.on] at h
    refine .seq<|.reg0 q (.o (mvV q)<|.o (asV q)<|.nil0) ?_
    replace h := h.symm
    subst h
    refine .kf [(2, u6 x3)] q q ?_
    exact .ret q
  · rintro r_ rfl
    exact h
  · rintro ⟨x1, x2⟩ z1 h hn1 hx1 hr1
    dsimp only [r01_Worth.b1] at h
    refine .seq<|.seq<|.reg0 q (.o (mvV q)<|.o (gtI q q)<|.nil0) ?_
    by_cases c3 : x1 > 0
    · rw [if_pos c3] at h
      refine .condT q (dt c3)<|.skip<|.seq<|.block<|.reg0 q (.o (mvV q)<|.o (mulI q q)<|.o (asV q)<|.nil0)<|.inBlock<|.reg0 q (.o (mvV q)<|.o (subI q q)<|.o (asV q)<|.nil0)<|.kf [(0, i6 (IntKind.i64.wrap (x1 - 1))), (3, u6 (IntKind.u64.wrap (x2 * 2)))] q q ?_
      exact hn1 _ h
    · rw [if_neg c3] at h
      refine .condF q (df c3)<|.exit q<|.keepL [] [(3, u6 x2)] [] (by decide) (by decide) ⟨.free q q, trivial⟩ trivial ?_
      exact hx1 _ h
def r01_Full.b1 (a0 : Int) : (Int × Int) → Rnd ((Int × Int)) Int (Int × Int) → Prop := fun (x1, x2) z1 => if x2 < a0 then (∃ t13_2 : Int, (r01_Worth.f x2 t13_2) ∧ z1 = .next ((IntKind.u64.wrap (x1 + t13_2)), (IntKind.i64.wrap (x2 + 1)))) else (z1 = .exit x1)
def r01_Full.f (a0 : Int) (r : Int × Int) : Prop :=
  if ((decide (a0 < 0)) || (decide (a0 > 64))) = true then (r = (0, 10)) else (∃ o1 : Fin Int (Int × Int), Loop (r01_Full.b1 a0) (0, 0) o1 ∧ o1.on (fun x3 => r = (x3, 0)) (fun r_ => r = r_))
theorem r01_Full.D {a0 r} (h : r01_Full.f a0 r) : D Tryz.prog X (.callH 149 [.val (.int .i64 a0)] [] (.tuple [.val (.int .u64 r.1), .val (.int .i64 r.2)]) []) := by
  unfold r01_Full.f at h
  refine .enter 22 0 fn149 q q q<|.seq<|.reg0 q (.o (asV q)<|.o (asV q)<|.nil0)<|.seq<|.seq ?_
  refine .reg0 (e1 := listEnv [(0, i6 a0), (11, bo ((decide (a0 < 0)) || (decide (a0 > 64))))]) (H1 := []) q ?_ ?_
  · refine .m q<|.o (ltI q q)<|.m q<|?_
    by_cases c1 : a0 < 0
    · exact (.n q (dt c1)<|.n q (dt c1)<|.o (pkTV q (dt c1) q)<|.nilL _ ⟨.free q q, cB q (mOrT (dt c1)), trivial⟩)
    · exact (.g q (df c1) (mvV q)<|.g q (df c1) (gtI q q)<|.o (pkFV q (df c1) q)<|.nilL _ ⟨.free q q, cB q (mOrF (df c1) q), trivial⟩)
  by_cases c2 : ((decide (a0 < 0)) || (decide (a0 > 64))) = true
  · rw [if_pos c2] at h
    refine .condT q c2<|.seq<|.reg0 q (.o (asV q)<|.o (asV q)<|.nil0) ?_
    replace h := h.symm
    subst h
    refine .kf [(2, u6 0), (3, i6 10)] q q ?_
    exact .ret q
  · rw [if_neg c2] at h
    refine .condF q (nb c2)<|.skip<|.seq<|.reg0 q (.o (asV q)<|.nil0)<|.seq<|.seq<|.reg0 q (.o (asV q)<|.nil0)<|.block<|.keepL [] [(0, i6 a0), (4, u6 0), (5, i6 0)] [] (by decide) (by decide) ⟨.free q q, .free q q, .free q q, trivial⟩ trivial ?_
    obtain ⟨o1, hL1, h⟩ := h
    refine .loopB (r01_Full.b1 a0) (fun (x1, x2) => listEnv [(0, i6 a0), (4, u6 x1), (5, i6 x2)]) (fun (x1, x2) => []) (fun x3 => listEnv [(4, u6 x3)]) (fun x3 => []) hL1 (fun r_ => r = r_) ?_ ?_ ?_
    · rintro x3 rfl
      try dsimp only [Fin.on] at h
      refine .seq<|.reg0 q (.o (mvV q)<|.o (asV q)<|.o (asV q)<|.nil0) ?_
      replace h := h.symm
      subst h
      refine .kf [(2, u6 x3), (3, i6 0)] q q ?_
      exact .ret q
    · rintro r_ rfl
      exact h
    · rintro ⟨x1, x2⟩ z1 h hn1 hx1 hr1
      dsimp only [r01_Full.b1] at h
      refine .seq<|.seq<|.reg0 q (.o (mvV q)<|.o (mvV q)<|.o (ltI q q)<|.nil0) ?_
      by_cases c5 : x2 < a0
      · rw [if_pos c5] at h
        refine .condT q (dt c5)<|.skip<|.seq<|.block ?_
        obtain ⟨t13_2, g13_2, h⟩ := h
        refine .reg0 q (.m q<|.m q<|.c q go85 q q q (r01_Worth.D g13_2)<|.o (addI q q)<|.a q<|.nil0)<|.inBlock<|.reg0 q (.o (mvV q)<|.o (addI q q)<|.o (asV q)<|.nil0)<|.kf [(0, i6 a0), (4, u6 (IntKind.u64.wrap (x1 + t13_2))), (5, i6 (IntKind.i64.wrap (x2 + 1)))] q q ?_
        exact hn1 _ h
      · rw [if_neg c5] at h
        refine .condF q (df c5)<|.exit q<|.keepL [] [(4, u6 x1)] [] (by decide) (by decide) ⟨.free q q, trivial⟩ trivial ?_
        exact hx1 _ h
def r03_Inside.f (a0 : Int) (a1 : Int) (r : Bool) : Prop :=
  ∃ t2_1 : Int × Int, (r01_Full.f a0 t2_1) ∧ r = ((bitOp .andNot .u64 a1 t2_1.1) == 0)
theorem r03_Inside.D {a0 a1 r} (h : r03_Inside.f a0 a1 r) : D Tryz.prog X (.callH 114 [.val (.int .i64 a0), .val (.int .u64 a1)] [] (.val (.bool r)) []) := by
  unfold r03_Inside.f at h
  refine .enter 16 0 fn114 q q q<|.seq<|.reg0 q (.o (asV q)<|.nil0)<|.seq ?_
  obtain ⟨t2_1, g2_1, h⟩ := h
  refine .reg0 q (.m q<|.c q go149 q q q (r01_Full.D g2_1)<|.o (mvT q)<|.o (exT q q)<|.o (exT q q)<|.a q<|.a q<|.nil0)<|.seq<|.reg0 q (.o (mvV q)<|.o (mvV q)<|.o (andNotI q q)<|.o (eqI q q)<|.o (asV q)<|.nil0) ?_
  replace h := h.symm
  subst h
  refine .kf [(4, bo ((bitOp .andNot .u64 a1 t2_1.1) == 0))] q q ?_
  exact .ret q
def r03_shape.b1 (a0 : Int) (a1 : TFacts) : Int → Rnd Int Unit Bool → Prop := fun x1 z1 => if x1 < a0 then (((InR x1 a1.Rows.length)) ∧ ∃ t14_6 : Bool, (r03_Inside.f a0 (rdl a1.Rows x1) t14_6) ∧ if t14_6 = true then (z1 = .next (IntKind.i64.wrap (x1 + 1))) else (z1 = .ret false)) else (z1 = .exit ())
def r03_shape.f (a0 : Int) (a1 : TFacts) (r : Bool) : Prop :=
  ∃ t2_9 : Bool, (((a1.Rows.length : Int) = a0) → r03_Inside.f a0 a1.Gen t2_9) ∧ if ((!((a1.Rows.length : Int) == a0)) || (!t2_9)) = true then (r = false) else (∃ o1 : Fin Unit Bool, Loop (r03_shape.b1 a0 a1) 0 o1 ∧ o1.on (fun _ => r = true) (fun r_ => r = r_))
theorem r03_shape.D {a0 a1 r} (h : r03_shape.f a0 a1 r) : D Tryz.prog X (.callH 112 [.val (.int .i64 a0), .agg (TFacts.lit a1)] [] (.val (.bool r)) []) := by
  unfold r03_shape.f at h
  refine .enter 31 0 fn112 q q q<|.seq<|.room 0<|.reg0 q (.o (bxP (s := 2) (cs := (TFacts.lit a1)) q ⟨q, by decide, q⟩ q)<|.o (asV q)<|.nil0)<|.seq<|.seq ?_
  obtain ⟨t2_9, g2_9, h⟩ := h
  refine .reg0 (e1 := listEnv [(0, i6 a0), (3, .ptr 0 1 2 0 0), (17, bo ((!((a1.Rows.length : Int) == a0)) || (!t2_9)))]) (H1 := [⟨2, [(TFacts.lit a1)], 0, none⟩]) q ?_ ?_
  · refine .o (faP fa29_1 q)<|.o (ldP q sz27 ag27 q)<|.o (lnR (l := a1.Rows) sl27 q)<|.m q<|.o (neI q q)<|.m q<|?_
    by_cases c1 : (a1.Rows.length : Int) = a0
    · exact (.g q (nf c1) (mvV q)<|.g q (nf c1) (faP fa29_0 q)<|.g q (nf c1) (ldP q sz26 ag26 q)<|.callI (gT q q q (nf c1)) (callee_of q go114 q) (.pure q q (r03_Inside.D (g2_9 c1)))<|.g q (nf c1) (notB q)<|.o (pkFV q (nf c1) q)<|.nilL _ ⟨.free q q, .ptr q, cB q (mOrF (bnotF (bt c1)) q), trivial⟩)
    · exact (.n q (nt c1)<|.n q (nt c1)<|.n q (nt c1)<|.n q (nt c1)<|.n q (nt c1)<|.o (pkTV q (nt c1) q)<|.nilL _ ⟨.free q q, .ptr q, cB q (mOrT (bnotT (bn c1))), trivial⟩)
  by_cases c2 : ((!((a1.Rows.length : Int) == a0)) || (!t2_9)) = true
  · rw [if_pos c2] at h
    refine .condT q c2<|.seq<|.reg0 q (.o (asV q)<|.nil0) ?_
    replace h := h.symm
    subst h
    refine .kf [(4, bo false)] q q ?_
    exact .ret q
  · rw [if_neg c2] at h
    refine .condF q (nb c2)<|.skip<|.seq<|.seq<|.reg0 q (.o (asV q)<|.nil0)<|.block<|.keepL [0] [(0, i6 a0), (3, .ptr 0 1 2 0 0), (5, i6 0)] [⟨2, [(TFacts.lit a1)], 0, none⟩] (by decide) (by decide) ⟨.free q q, .ptr q, .free q q, trivial⟩ ⟨⟨_, q, bcBox (all2_free q)⟩, trivial⟩ ?_
    obtain ⟨o1, hL1, h⟩ := h
    refine .loopB (r03_shape.b1 a0 a1) (fun x1 => listEnv [(0, i6 a0), (3, .ptr 0 1 2 0 0), (5, i6 x1)]) (fun x1 => [⟨2, [(TFacts.lit a1)], 0, none⟩]) (fun _ => listEnv []) (fun _ => []) hL1 (fun r_ => r = r_) ?_ ?_ ?_
    · rintro ⟨⟩ rfl
      try dsimp only [Fin.on] at h
      refine .seq<|.reg0 q (.o (asV q)<|.nil0) ?_
      replace h := h.symm
      subst h
      refine .kf [(4, bo true)] q q ?_
      exact .ret q
    · rintro r_ rfl
      exact h
    · rintro x1 z1 h hn1 hx1 hr1
      dsimp only [r03_shape.b1] at h
      refine .seq<|.seq<|.reg0 q (.o (mvV q)<|.o (mvV q)<|.o (ltI q q)<|.nil0) ?_
      by_cases c7 : x1 < a0
      · rw [if_pos c7] at h
        refine .condT q (dt c7)<|.skip<|.seq<|.block<|.seq ?_
        obtain ⟨g14_4, h⟩ := h
        obtain ⟨t14_6, g14_6, h⟩ := h
        refine .reg0 q (.m q<|.o (faP fa29_1 q)<|.o (ldP q sz27 ag27 q)<|.m q<|.o (ixR (l := a1.Rows) (lit := (cInt .u64)) sl27 q q (fun _ => q) g14_4.1 g14_4.2)<|.o (ldC q sz26 ag26 q)<|.c q go114 q q q (r03_Inside.D g14_6)<|.o (notB q)<|.nil0) ?_
        by_cases c8 : t14_6 = true
        · rw [if_pos c8] at h
          refine .condF q (bnotF c8)<|.skip<|.inBlock<|.reg0 q (.o (mvV q)<|.o (addI q q)<|.o (asV q)<|.nil0)<|.keepL [0] [(0, i6 a0), (3, .ptr 0 1 2 0 0), (5, i6 (IntKind.i64.wrap (x1 + 1)))] [⟨2, [(TFacts.lit a1)], 0, none⟩] (by decide) (by decide) ⟨.free q q, .ptr q, .free q q, trivial⟩ ⟨⟨_, q, bcBox (all2_free q)⟩, trivial⟩ ?_
          exact hn1 _ h
        · rw [if_neg c8] at h
          refine .condT q (bnotT (nb c8))<|.seq<|.reg0 q (.o (asV q)<|.nil0) ?_
          have q3 := hr1 _ h
          replace q3 := q3.symm
          subst q3
          refine .kf [(4, bo false)] q q ?_
          exact .ret q
      · rw [if_neg c7] at h
        refine .condF q (df c7)<|.exit q<|.keepL [] [] [] (by decide) (by decide) trivial trivial ?_
        exact hx1 _ h
def r03_canon.b1 (a0 : TFacts) : ((List Int) × Int) → Rnd (((List Int) × Int)) ((List Int)) TFacts → Prop := fun (x2, x3) z1 => if x3 < (a0.Rows.length : Int) then (((InR x3 a0.Rows.length)) ∧ ((Fits (x2.length + 1) 8)) ∧ z1 = .next ((x2 ++ [(bitOp .andNot .u64 (rdl a0.Rows x3) a0.Gen)]), (IntKind.i64.wrap (x3 + 1)))) else (z1 = .exit x2)
def r03_canon.f (a0 : TFacts) (r : TFacts) : Prop :=
  ∃ o1 : Fin ((List Int)) TFacts, Loop (r03_canon.b1 a0) ([], 0) o1 ∧ o1.on (fun x4 => r = (TFacts.mk a0.Gen x4)) (fun r_ => r = r_)
theorem r03_canon.D {a0 r} (h : r03_canon.f a0 r) : D Tryz.prog X (.callH 113 [.agg (TFacts.lit a0)] [] (.agg (TFacts.lit r)) []) := by
  unfold r03_canon.f at h
  refine .enter 29 0 fn113 q q q<|.seq<|.room 0<|.room 0<|.reg0 q (.o (bxP (s := 2) (cs := (TFacts.lit a0)) q ⟨q, by decide, q⟩ q)<|.op 1 q (alP (s := 2) ze29 ⟨q, by decide, q⟩ q)<|.nil0)<|.seq<|.room 0<|.reg0 q (.o (faP fa29_0 q)<|.o (ldP q sz26 ag26 q)<|.o (bldS (cs := [u6 a0.Gen, nul]) ze29 pl29 q q)<|.op 2 q (alP (s := 2) ze29 ⟨q, by decide, q⟩ q)<|.o (stB (cs0 := [u6 0, nul]) (cs := [u6 a0.Gen, nul]) (cs1 := [u6 a0.Gen, nul]) q q sz29 q ⟨Nat.le_of_ble_eq_true q, q⟩ q)<|.nil0) ?_
  refine .seq<|.seq<|.reg0 q (.o (asV q)<|.nil0)<|.block<|.room 1<|.keepL [0, 1, 2, 3] [(1, .ptr 0 1 2 0 0), (2, .ptr 1 1 2 0 0), (3, .ptr 2 1 2 0 0), (4, i6 0)] [⟨2, [(TFacts.lit a0)], 0, none⟩, ⟨2, [[u6 0, nul]], 0, none⟩, ⟨2, [[u6 a0.Gen, .own 3 0]], 0, none⟩, ⟨1, [].map (cInt .u64), 0, none⟩] (by decide) (by decide) ⟨.ptr q, .ptr q, .ptr q, .free q q, trivial⟩ ⟨⟨_, q, bcBox (all2_free q)⟩, ⟨_, q, bcBox (all2_free q)⟩, ⟨_, q, bcBox (.cons (.free q q)<|.cons (.nilOwn)<|.nil)⟩, ⟨_, q, (bcRow (l := []) sl27 (Nat.le_refl _) q)⟩, trivial⟩ ?_
  obtain ⟨o1, hL1, h⟩ := h
  refine .loopB (r03_canon.b1 a0) (fun (x2, x3) => listEnv [(1, .ptr 0 1 2 0 0), (2, .ptr 1 1 2 0 0), (3, .ptr 2 1 2 0 0), (4, i6 x3)]) (fun (x2, x3) => [⟨2, [(TFacts.lit a0)], 0, none⟩, ⟨2, [[u6 0, nul]], 0, none⟩, ⟨2, [[u6 a0.Gen, .own 3 x2.length]], 0, none⟩, ⟨1, x2.map (cInt .u64), 0, none⟩]) (fun x4 => listEnv [(2, .ptr 0 1 2 0 0), (3, .ptr 1 1 2 0 0)]) (fun x4 => [⟨2, [[u6 0, nul]], 0, none⟩, ⟨2, [[u6 a0.Gen, .own 2 x4.length]], 0, none⟩, ⟨1, x4.map (cInt .u64), 0, none⟩]) hL1 (fun r_ => r = r_) ?_ ?_ ?_
  · rintro x4 rfl
    try dsimp only [Fin.on] at h
    refine .seq<|.reg0 q (.o (ldG q sz29 ag29 q)<|.o (stB (cs0 := [u6 0, nul]) (cs := [u6 a0.Gen, .own 2 x4.length]) (cs1 := [u6 a0.Gen, .own 2 x4.length]) q q sz29 q ⟨Nat.le_of_ble_eq_true q, q⟩ q)<|.nil0) ?_
    replace h := h.symm
    subst h
    refine .k [(2, .cptr [u6 a0.Gen, .rows (x4.map (cInt .u64))] 0)] ⟨cFixP q q (.cons (.free q q)<|.cons (cFixO (l := x4) sl27 q q q q)<|.nil), trivial⟩ ?_
    exact .ret q
  · rintro r_ rfl
    exact h
  · rintro ⟨x2, x3⟩ z1 h hn1 hx1 hr1
    dsimp only [r03_canon.b1] at h
    refine .seq<|.seq<|.reg0 q (.o (mvV q)<|.o (faP fa29_1 q)<|.o (ldP q sz27 ag27 q)<|.o (lnR (l := a0.Rows) sl27 q)<|.o (ltI q q)<|.nil0) ?_
    by_cases c3 : x3 < (a0.Rows.length : Int)
    · rw [if_pos c3] at h
      refine .condT q (dt c3)<|.skip<|.seq<|.block ?_
      obtain ⟨g11_5, h⟩ := h
      obtain ⟨g11_11, h⟩ := h
      refine .room 0<|.room 0 ?_
      refine .reg1 (e1 := listEnv [(1, .ptr 0 1 2 0 0), (2, .ptr 1 1 2 0 0), (3, .ptr 2 1 2 0 0), (4, i6 x3)]) (H1 := [⟨2, [(TFacts.lit a0)], 0, none⟩, ⟨2, [[u6 0, nul]], 0, none⟩, ⟨2, [[u6 a0.Gen, .own 3 ((x2 ++ [(bitOp .andNot .u64 (rdl a0.Rows x3) a0.Gen)]).length)]], 0, none⟩, ⟨1, (x2 ++ [(bitOp .andNot .u64 (rdl a0.Rows x3) a0.Gen)]).map (cInt .u64), 0, none⟩, ⟨1, [(bitOp .andNot .u64 (rdl a0.Rows x3) a0.Gen)].map (cInt .u64), 0, none⟩, Blk.hole]) q ?_ ?_
      · exact .drawM [(12, 27, .ptr 2 1 2 0 1), (11, 26, .own 3 ((x2 ++ [(bitOp .andNot .u64 (rdl a0.Rows x3) a0.Gen)]).length)), (10, 25, .own 4 ([(bitOp .andNot .u64 (rdl a0.Rows x3) a0.Gen)].length)), (9, 24, u6 (bitOp .andNot .u64 (rdl a0.Rows x3) a0.Gen)), (8, 23, u6 a0.Gen), (7, 22, .ptr 0 1 2 0 0), (6, 21, u6 (rdl a0.Rows x3)), (5, 20, .cptr ((cInt .u64) (rdl a0.Rows x3)) 0), (4, 19, i6 x3), (3, 18, .rows (a0.Rows.map (cInt .u64))), (2, 17, .ptr 0 1 2 0 1), (1, 16, .own 3 x2.length), (0, 15, .ptr 2 1 2 0 1)] [(13, 2, ⟨2, [[u6 a0.Gen, .own 3 ((x2 ++ [(bitOp .andNot .u64 (rdl a0.Rows x3) a0.Gen)]).length)]], 0, none⟩), (11, 3, ⟨1, (x2 ++ [(bitOp .andNot .u64 (rdl a0.Rows x3) a0.Gen)]).map (cInt .u64), 0, none⟩), (10, 4, ⟨1, [(bitOp .andNot .u64 (rdl a0.Rows x3) a0.Gen)].map (cInt .u64), 0, none⟩)] [[], [0], [], [2], [], [3, 2, 4], [5, 3, 2, 4], [], [7], [6, 5, 3, 2, 4, 8, 7], [9, 6, 5, 3, 2, 4, 8, 7], [1, 0, 10, 9, 6, 5, 3, 2, 4, 8, 7], [0, 1, 2, 3, 4, 5, 6, 7, 8, 9, 10, 11], [12, 0, 1, 2, 3, 4, 5, 6, 7, 8, 9, 10, 11]] (by rfl) (by rfl) (by rfl) (by exact ⟨oP (fun _ => faP fa29_1 q) q, oP (fun _ => ldP q sz27 ag27 q) q, oP (fun _ => faP fa29_1 q) q, oP (fun _ => ldP q sz27 ag27 q) q, oP (fun _ => mvV q) q, oP (fun _ => ixR (l := a0.Rows) (lit := (cInt .u64)) sl27 q q (fun _ => q) g11_5.1 g11_5.2) q, oP (fun _ => ldC q sz26 ag26 q) q, oP (fun _ => faP fa29_0 q) q, oP (fun _ => ldP q sz26 ag26 q) q, oP (fun _ => andNotI q q) q, oW 4 (fun _ => bldL (s := 1) (cs := [u6 (bitOp .andNot .u64 (rdl a0.Rows x3) a0.Gen)]) un27 sz26 ze26 ⟨by decide, q, by decide⟩ q q q q) q fun _ => q, oW 0 (fun _ => ap1 (l := x2) (bitOp .andNot .u64 (rdl a0.Rows x3) a0.Gen) sl27 q q q (Nat.zero_le _) (elems_own (l := [(bitOp .andNot .u64 (rdl a0.Rows x3) a0.Gen)]) q q) g11_11) q fun _ => q, oP (fun _ => faP fa29_1 q) q, fun S hS hD hn => .one0 0 q q (stB (cs0 := [u6 a0.Gen, .own 3 x2.length]) (cs := [.own 3 ((x2 ++ [(bitOp .andNot .u64 (rdl a0.Rows x3) a0.Gen)]).length)]) (cs1 := [u6 a0.Gen, .own 3 ((x2 ++ [(bitOp .andNot .u64 (rdl a0.Rows x3) a0.Gen)]).length)]) q q sz27 q ⟨Nat.le_of_ble_eq_true q, q⟩ q) (drawE_other _ _ _ _ q) q, trivial⟩) _ (by exact ⟨.ptr q, .ptr q, .ptr q, .free q q, trivial⟩) (by rfl)
      refine .inBlock<|.reg0 q (.o (mvV q)<|.o (addI q q)<|.o (asV q)<|.nil0)<|.keepL [0, 1, 2, 3] [(1, .ptr 0 1 2 0 0), (2, .ptr 1 1 2 0 0), (3, .ptr 2 1 2 0 0), (4, i6 (IntKind.i64.wrap (x3 + 1)))] [⟨2, [(TFacts.lit a0)], 0, none⟩, ⟨2, [[u6 0, nul]], 0, none⟩, ⟨2, [[u6 a0.Gen, .own 3 ((x2 ++ [(bitOp .andNot .u64 (rdl a0.Rows x3) a0.Gen)]).length)]], 0, none⟩, ⟨1, (x2 ++ [(bitOp .andNot .u64 (rdl a0.Rows x3) a0.Gen)]).map (cInt .u64), 0, none⟩] (by decide) (by decide) ⟨.ptr q, .ptr q, .ptr q, .free q q, trivial⟩ ⟨⟨_, q, bcBox (all2_free q)⟩, ⟨_, q, bcBox (all2_free q)⟩, ⟨_, q, bcBox (.cons (.free q q)<|.cons (.own q)<|.nil)⟩, ⟨_, q, bcRow (l := (x2 ++ [(bitOp .andNot .u64 (rdl a0.Rows x3) a0.Gen)])) sl27 (Nat.le_refl _) q⟩, trivial⟩ ?_
      exact hn1 _ h
    · rw [if_neg c3] at h
      refine .condF q (df c3)<|.exit q<|.keepL [1, 2, 3] [(2, .ptr 0 1 2 0 0), (3, .ptr 1 1 2 0 0)] [⟨2, [[u6 0, nul]], 0, none⟩, ⟨2, [[u6 a0.Gen, .own 2 x2.length]], 0, none⟩, ⟨1, x2.map (cInt .u64), 0, none⟩] (by decide) (by decide) ⟨.ptr q, .ptr q, trivial⟩ ⟨⟨_, q, bcBox (all2_free q)⟩, ⟨_, q, bcBox (.cons (.free q q)<|.cons (.own q)<|.nil)⟩, ⟨_, q, bcRow (l := x2) sl27 (Nat.le_refl _) q⟩, trivial⟩ ?_
      exact hx1 _ h
end Go.RM.Tryz
