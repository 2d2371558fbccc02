/- GE, for the statement WeightRing: what it needs, no more. -/
import Derived.Test.YthjbpjpcddegfaaGreatDoorZWeightRingGD
set_option linter.unusedVariables false
set_option maxRecDepth 8000
set_option maxHeartbeats 4000000
namespace Go.RM.Tryz
open Go.RM Go.Proofs
def weight_One.f (a0 : TSpace) (r : TWeight × Int) : Prop :=
  ∃ t2_1 : Int, (weight_Space.f a0 t2_1) ∧ if t2_1 = 0 then (∃ t4_1 : TWeight, (weight_one.f a0 t4_1) ∧ r = (t4_1, 0)) else (r = ((TWeight.mk false 0 (TFacts.mk 0 []) [] []), t2_1))
abbrev GE_c0 : List PV := [bo false, i6 0, u6 0, nul, nul, nul]
abbrev GE_c1 : List PV := [bo false, i6 0, u6 0, .rows (([] : List Int).map (cInt .u64)), .rows (([] : List TCell).map TCell.cells), .rows (([] : List TWeight).map TWeight.cells)]
abbrev GE_c2 : List PV := [bo true, i6 0, u6 0, nul, nul, nul]
theorem weight_One.D {a0 r} (h : weight_One.f a0 r) : D Tryz.prog X (.callH 13 [.agg (TSpace.lit a0)] [] (.tuple [.agg (TWeight.lit r.1), .val (.int .i64 r.2)]) []) := by
  unfold weight_One.f at h
  refine .enter 13 0 fn13 q q q<|.seq<|.room 0<|.room 0<|.reg0 q (.o (bxP (s := 3) (cs := (TSpace.lit a0)) q ⟨q, by decide, q⟩ q)<|.op 1 q (alP (s := 6) ze33 ⟨q, by decide, q⟩ q)<|.o (asV q)<|.nil0)<|.seq<|.seq ?_
  obtain ⟨t2_1, g2_1, h⟩ := h
  refine .reg0 q (.o (ldG q sz25 ag25 q)<|.c q go29 q q q (weight_Space.D g2_1)<|.a q<|.nil0)<|.seq<|.reg0 q (.o (mvV q)<|.o (neI q q)<|.nil0) ?_
  by_cases c1 : t2_1 = 0
  · rw [if_pos c1] at h
    refine .condF q (nf c1)<|.skip<|.seq ?_
    obtain ⟨t4_1, g4_1, h⟩ := h
    refine .reg0 q (.o (ldG q sz25 ag25 q)<|.c q go40 q q q (weight_one.D g4_1)<|.o (stB (cs0 := GE_c0) (cs := (TWeight.lit t4_1)) (cs1 := (TWeight.lit t4_1)) q q sz33 q ⟨Nat.le_of_ble_eq_true q, q⟩ q)<|.a q<|.nil0) ?_
    replace h := h.symm
    subst h
    refine .k [(2, .cptr (TWeight.lit t4_1) 0), (3, i6 0)] ⟨cFixP q q (.cons (.free q q)<|.cons (.free q q)<|.cons (.free q q)<|.cons (.free q q)<|.cons (.free q q)<|.cons (.free q q)<|.nil), .free q q, trivial⟩ ?_
    exact .ret q
  · rw [if_neg c1] at h
    refine .condT q (nt c1)<|.seq<|.reg0 q (.o (bldS (cs := GE_c0) ze33 pl33 q q)<|.o (mvV q)<|.o (stB (cs0 := GE_c0) (cs := GE_c0) (cs1 := GE_c0) q q sz33 q ⟨Nat.le_of_ble_eq_true q, q⟩ q)<|.o (asV q)<|.nil0) ?_
    replace h := h.symm
    subst h
    refine .k [(2, .cptr GE_c1 0), (3, i6 t2_1)] ⟨cFixP q q (.cons (.free q q)<|.cons (.free q q)<|.cons (.free q q)<|.cons (.nil)<|.cons (.nil)<|.cons (.nil)<|.nil), .free q q, trivial⟩ ?_
    exact .ret q
def weight_zero.step (self41 : TSpace → TWeight → Prop) (a0 : TSpace) (r : TWeight) : Prop :=
  if a0.Tag = 5 then (((InR 0 a0.Parts.length)) ∧ ∃ t3_4 : TWeight, (self41 (rdl a0.Parts 0) t3_4) ∧ ((InR 1 a0.Parts.length)) ∧ ∃ t3_9 : TWeight, (self41 (rdl a0.Parts 1) t3_9) ∧ r = (TWeight.mk false 0 (TFacts.mk 0 []) [] [t3_4, t3_9])) else (r = (TWeight.mk true 0 (TFacts.mk 0 []) [] []))
theorem weight_zero.stepD {self41 : TSpace → TWeight → Prop} {a0 : TSpace} (hs41 : ∀ z0_ r_, self41 z0_ r_ → D Tryz.prog X (.callH 41 [.agg (TSpace.lit z0_)] [] (.agg (TWeight.lit r_)) [])) {r : TWeight} (h : weight_zero.step self41 a0 r) : D Tryz.prog X (.callH 41 [.agg (TSpace.lit a0)] [] (.agg (TWeight.lit r)) []) := by
  unfold weight_zero.step at h
  refine .enter 19 0 fn41 q q q<|.seq<|.room 0<|.room 0<|.reg0 q (.o (bxP (s := 3) (cs := (TSpace.lit a0)) q ⟨q, by decide, q⟩ q)<|.op 1 q (alP (s := 6) ze33 ⟨q, by decide, q⟩ q)<|.nil0)<|.seq<|.seq<|.reg0 q (.o (faP fa25_0 q)<|.o (ldP q sz22 ag22 q)<|.o (neI q q)<|.nil0) ?_
  by_cases c1 : a0.Tag = 5
  · rw [if_pos c1] at h
    refine .condF q (nf c1)<|.skip<|.seq ?_
    obtain ⟨g3_2, h⟩ := h
    obtain ⟨t3_4, g3_4, h⟩ := h
    obtain ⟨g3_7, h⟩ := h
    obtain ⟨t3_9, g3_9, h⟩ := h
    refine .room 0 ?_
    refine .reg1 (e1 := listEnv [(2, .ptr 1 1 6 0 0)]) (H1 := [⟨3, [(TSpace.lit a0)], 0, none⟩, ⟨6, [[bo false, i6 0, u6 0, nul, nul, .own 2 ([t3_4, t3_9].length)]], 0, none⟩, ⟨6, [t3_4, t3_9].map TWeight.cells, 0, none⟩]) q ?_ ?_
    · exact .drawM [(11, 18, .agg [bo false, i6 0, u6 0, nul, nul, .own 2 ([t3_4, t3_9].length)]), (10, 17, .own 2 ([t3_4, t3_9].length)), (9, 16, .agg (TWeight.lit t3_9)), (8, 15, .agg (TSpace.lit (rdl a0.Parts 1))), (7, 14, .cptr (TSpace.lit (rdl a0.Parts 1)) 0), (6, 13, .rows (a0.Parts.map TSpace.cells)), (5, 12, .ptr 0 1 3 0 2), (4, 11, .agg (TWeight.lit t3_4)), (3, 10, .agg (TSpace.lit (rdl a0.Parts 0))), (2, 9, .cptr (TSpace.lit (rdl a0.Parts 0)) 0), (1, 8, .rows (a0.Parts.map TSpace.cells)), (0, 7, .ptr 0 1 3 0 2)] [(12, 1, ⟨6, [[bo false, i6 0, u6 0, nul, nul, .own 2 ([t3_4, t3_9].length)]], 0, none⟩), (10, 2, ⟨6, [t3_4, t3_9].map TWeight.cells, 0, none⟩)] [[], [0], [1, 0], [2, 1, 0], [3, 2, 1, 0], [], [5], [6, 5], [7, 6, 5], [8, 7, 6, 5, 4, 3, 2, 1, 0], [4, 3, 2, 1, 0, 9, 8, 7, 6, 5], [10, 4, 3, 2, 1, 0, 9, 8, 7, 6, 5], [11, 10, 4, 3, 2, 1, 0, 9, 8, 7, 6, 5]] (by rfl) (by rfl) (by rfl) (by exact ⟨oP (fun _ => faP fa25_2 q) q, oP (fun _ => ldP q sz23 ag23 q) q, oP (fun _ => ixR (l := a0.Parts) (lit := TSpace.lit) sl23 q q TSpace.cells_lit g3_2.1 g3_2.2) q, oP (fun _ => ldCG q sz25 ag25 q) q, fun S hS hD hn => .oneI hS hD hn q q (callee_of q go41 q) (.pure q q (hs41 _ _ g3_4)) q q q, oP (fun _ => faP fa25_2 q) q, oP (fun _ => ldP q sz23 ag23 q) q, oP (fun _ => ixR (l := a0.Parts) (lit := TSpace.lit) sl23 q q TSpace.cells_lit g3_7.1 g3_7.2) q, oP (fun _ => ldCG q sz25 ag25 q) q, fun S hS hD hn => .oneI hS hD hn q q (callee_of q go41 q) (.pure q q (hs41 _ _ g3_9)) q q q, oW 2 (fun _ => bldT (s := 6) (cs := [bo t3_4.Zero, i6 t3_4.Cost, u6 t3_4.Facts.Gen, .rows (t3_4.Facts.Rows.map (cInt .u64)), .rows (t3_4.Cells.map TCell.cells), .rows (t3_4.Parts.map TWeight.cells), bo t3_9.Zero, i6 t3_9.Cost, u6 t3_9.Facts.Gen, .rows (t3_9.Facts.Rows.map (cInt .u64)), .rows (t3_9.Cells.map TCell.cells), .rows (t3_9.Parts.map TWeight.cells)]) (cf := TWeight.cells) [t3_4, t3_9] un31 sz33 ze33 ⟨by decide, q, by decide⟩ q q q (by simp only [List.map, TWeight.cells_lit]; rfl) q) q fun _ => q, oP (fun _ => bldS (cs := [bo false, i6 0, u6 0, nul, nul, .own 2 ([t3_4, t3_9].length)]) ze33 pl33 q q) q, fun S hS hD hn => .one0 0 q q (stB (cs0 := GE_c0) (cs := [bo false, i6 0, u6 0, nul, nul, .own 2 ([t3_4, t3_9].length)]) (cs1 := [bo false, i6 0, u6 0, nul, nul, .own 2 ([t3_4, t3_9].length)]) q q sz33 q ⟨Nat.le_of_ble_eq_true q, q⟩ q) (drawE_other _ _ _ _ q) q, trivial⟩) _ (by exact ⟨.ptr q, trivial⟩) (by rfl)
    replace h := h.symm
    subst h
    refine .k [(2, .cptr [bo false, i6 0, u6 0, .rows (([] : List Int).map (cInt .u64)), .rows (([] : List TCell).map TCell.cells), .rows ([t3_4, t3_9].map TWeight.cells)] 0)] ⟨cFixP q q (.cons (.free q q)<|.cons (.free q q)<|.cons (.free q q)<|.cons (.nil)<|.cons (.nil)<|.cons (cFixO (l := [t3_4, t3_9]) sl31 q q q q)<|.nil), trivial⟩ ?_
    exact .ret q
  · rw [if_neg c1] at h
    refine .condT q (nt c1)<|.seq<|.reg0 q (.o (bldS (cs := GE_c2) ze33 pl33 q q)<|.o (stB (cs0 := GE_c0) (cs := GE_c2) (cs1 := GE_c2) q q sz33 q ⟨Nat.le_of_ble_eq_true q, q⟩ q)<|.nil0) ?_
    replace h := h.symm
    subst h
    refine .k [(2, .cptr [bo true, i6 0, u6 0, .rows (([] : List Int).map (cInt .u64)), .rows (([] : List TCell).map TCell.cells), .rows (([] : List TWeight).map TWeight.cells)] 0)] ⟨cFixP q q (.cons (.free q q)<|.cons (.free q q)<|.cons (.free q q)<|.cons (.nil)<|.cons (.nil)<|.cons (.nil)<|.nil), trivial⟩ ?_
    exact .ret q
def weight_zero.fN : Nat → TSpace → TWeight → Prop
  | 0 => fun _ _ => False
  | n + 1 => weight_zero.step (weight_zero.fN n)
theorem weight_zero.ND : ∀ (n : Nat) {a0 : TSpace} {r : TWeight} (h : weight_zero.fN n a0 r), D Tryz.prog X (.callH 41 [.agg (TSpace.lit a0)] [] (.agg (TWeight.lit r)) [])
  | 0, _, _, h => h.elim
  | n + 1, _, _, h => weight_zero.stepD (fun _ _ h => weight_zero.ND n h) h
def weight_zero.f (a0 : TSpace) (r : TWeight) : Prop := ∃ n, weight_zero.fN n a0 r
theorem weight_zero.D {a0 r} (h : weight_zero.f a0 r) : D Tryz.prog X (.callH 41 [.agg (TSpace.lit a0)] [] (.agg (TWeight.lit r)) []) := by obtain ⟨n, h⟩ := h; exact weight_zero.ND n h
def weight_Zero.f (a0 : TSpace) (r : TWeight × Int) : Prop :=
  ∃ t2_1 : Int, (weight_Space.f a0 t2_1) ∧ if t2_1 = 0 then (∃ t4_1 : TWeight, (weight_zero.f a0 t4_1) ∧ r = (t4_1, 0)) else (r = ((TWeight.mk false 0 (TFacts.mk 0 []) [] []), t2_1))
theorem weight_Zero.D {a0 r} (h : weight_Zero.f a0 r) : D Tryz.prog X (.callH 14 [.agg (TSpace.lit a0)] [] (.tuple [.agg (TWeight.lit r.1), .val (.int .i64 r.2)]) []) := by
  unfold weight_Zero.f at h
  refine .enter 13 0 fn14 q q q<|.seq<|.room 0<|.room 0<|.reg0 q (.o (bxP (s := 3) (cs := (TSpace.lit a0)) q ⟨q, by decide, q⟩ q)<|.op 1 q (alP (s := 6) ze33 ⟨q, by decide, q⟩ q)<|.o (asV q)<|.nil0)<|.seq<|.seq ?_
  obtain ⟨t2_1, g2_1, h⟩ := h
  refine .reg0 q (.o (ldG q sz25 ag25 q)<|.c q go29 q q q (weight_Space.D g2_1)<|.a q<|.nil0)<|.seq<|.reg0 q (.o (mvV q)<|.o (neI q q)<|.nil0) ?_
  by_cases c1 : t2_1 = 0
  · rw [if_pos c1] at h
    refine .condF q (nf c1)<|.skip<|.seq ?_
    obtain ⟨t4_1, g4_1, h⟩ := h
    refine .reg0 q (.o (ldG q sz25 ag25 q)<|.c q go41 q q q (weight_zero.D g4_1)<|.o (stB (cs0 := GE_c0) (cs := (TWeight.lit t4_1)) (cs1 := (TWeight.lit t4_1)) q q sz33 q ⟨Nat.le_of_ble_eq_true q, q⟩ q)<|.a q<|.nil0) ?_
    replace h := h.symm
    subst h
    refine .k [(2, .cptr (TWeight.lit t4_1) 0), (3, i6 0)] ⟨cFixP q q (.cons (.free q q)<|.cons (.free q q)<|.cons (.free q q)<|.cons (.free q q)<|.cons (.free q q)<|.cons (.free q q)<|.nil), .free q q, trivial⟩ ?_
    exact .ret q
  · rw [if_neg c1] at h
    refine .condT q (nt c1)<|.seq<|.reg0 q (.o (bldS (cs := GE_c0) ze33 pl33 q q)<|.o (mvV q)<|.o (stB (cs0 := GE_c0) (cs := GE_c0) (cs1 := GE_c0) q q sz33 q ⟨Nat.le_of_ble_eq_true q, q⟩ q)<|.o (asV q)<|.nil0) ?_
    replace h := h.symm
    subst h
    refine .k [(2, .cptr GE_c1 0), (3, i6 t2_1)] ⟨cFixP q q (.cons (.free q q)<|.cons (.free q q)<|.cons (.free q q)<|.cons (.nil)<|.cons (.nil)<|.cons (.nil)<|.nil), .free q q, trivial⟩ ?_
    exact .ret q
def slices_IndexFunc_Weight.b1 (a0 : List TWeight) (a1 : TWeight → Bool → Prop) : Int → Rnd Int Unit Int → Prop := fun x1 z1 => if x1 < (a0.length : Int) then (((InR x1 a0.length)) ∧ ∃ t15_5 : Bool, (a1 (rdl a0 x1) t15_5) ∧ if t15_5 = true then (z1 = .ret x1) else (z1 = .next (IntKind.i64.wrap (x1 + 1)))) else (z1 = .exit ())
def slices_IndexFunc_Weight.f (a0 : List TWeight) (a1 : TWeight → Bool → Prop) (r : Int) : Prop :=
  ∃ o1 : Fin Unit Int, Loop (slices_IndexFunc_Weight.b1 a0 a1) 0 o1 ∧ o1.on (fun _ => r = (-1)) (fun r_ => r = r_)
theorem slices_IndexFunc_Weight.D {a0 : List TWeight} {a1 : TWeight → Bool → Prop} {r : Int} {c1_ : FuncId} {k1_ : List PV} (hg1_ : isGo Tryz.prog c1_ = true) (hk1_ : PV.free deep (.clo c1_ k1_) = true) (hka1_ : k1_.all (PV.free deep) = true) (hq1_ : ∀ x0_ y_, a1 x0_ y_ → D Tryz.prog X (.callH c1_ ([.agg (TWeight.lit x0_)] ++ k1_) [] (.val (.bool y_)) [])) (h : slices_IndexFunc_Weight.f a0 a1 r) : D Tryz.prog X (.callH 117 [.rows (a0.map TWeight.cells), .clo c1_ k1_] [] (.val (.int .i64 r)) []) := by
  unfold slices_IndexFunc_Weight.f at h
  refine .enter 19 0 fn117 q q q<|.seq<|.reg0 q (.o (asV q)<|.nil0)<|.seq<|.seq<|.reg0 q (.o (mvR q)<|.o (lnR (l := a0) sl31 q)<|.o (mvV q)<|.nil0)<|.block<|.keepL [] [(0, .rows (a0.map TWeight.cells)), (1, .clo c1_ k1_), (7, i6 (a0.length : Int)), (8, i6 0)] [] (by decide) (by decide) ⟨.free q q, .free q hk1_, .free q q, .free q q, trivial⟩ trivial ?_
  obtain ⟨o1, hL1, h⟩ := h
  refine .loopB (slices_IndexFunc_Weight.b1 a0 a1) (fun x1 => listEnv [(0, .rows (a0.map TWeight.cells)), (1, .clo c1_ k1_), (7, i6 (a0.length : Int)), (8, i6 x1)]) (fun x1 => []) (fun _ => listEnv []) (fun _ => []) hL1 (fun r_ => r = r_) ?_ ?_ ?_
  · rintro ⟨⟩ rfl
    try dsimp only [Fin.on] at h
    refine .seq<|.reg0 q (.o (asV q)<|.nil0) ?_
    replace h := h.symm
    subst h
    refine .kf [(4, i6 (-1))] q q ?_
    exact .ret q
  · rintro r_ rfl
    exact h
  · rintro x1 z1 h hn1 hx1 hr1
    dsimp only [slices_IndexFunc_Weight.b1] at h
    refine .seq<|.reg0 q (.o (ltI q q)<|.nil0)<|.seq ?_
    by_cases c5 : x1 < (a0.length : Int)
    · rw [if_pos c5] at h
      refine .condT q (dt c5)<|.skip<|.seq<|.block<|.seq<|.reg0 q (.o (mvV q)<|.o (asV q)<|.nil0)<|.seq ?_
      obtain ⟨g15_3, h⟩ := h
      obtain ⟨t15_5, g15_5, h⟩ := h
      refine .reg0 q (.o (mvF q)<|.o (mvR q)<|.m q<|.o (ixR (l := a0) (lit := TWeight.lit) sl31 q q TWeight.cells_lit g15_3.1 g15_3.2)<|.o (ldCG q sz33 ag33 q)<|.callI q (callee_of q hg1_ q) (.pure (allCons q hka1_) q (hq1_ _ _ g15_5))<|.nil0) ?_
      by_cases c6 : t15_5 = true
      · rw [if_pos c6] at h
        refine .condT q c6<|.seq<|.reg0 q (.o (mvV q)<|.o (asV q)<|.nil0) ?_
        have q3 := hr1 _ h
        replace q3 := q3.symm
        subst q3
        refine .kf [(4, i6 x1)] q q ?_
        exact .ret q
      · rw [if_neg c6] at h
        refine .condF q (nb c6)<|.skip<|.inBlock<|.reg0 q (.o (addI q q)<|.o (mvV q)<|.nil0)<|.k [(0, .rows (a0.map TWeight.cells)), (1, .clo c1_ k1_), (7, i6 (a0.length : Int)), (8, i6 (IntKind.i64.wrap (x1 + 1)))] ⟨.free q q, .free q hk1_, .free q q, .free q q, trivial⟩ ?_
        exact hn1 _ h
    · rw [if_neg c5] at h
      refine .condF q (df c5)<|.exit q<|.keepL [] [] [] (by decide) (by decide) trivial trivial ?_
      exact hx1 _ h
def slices_ContainsFunc_Weight.f (a0 : List TWeight) (a1 : TWeight → Bool → Prop) (r : Bool) : Prop :=
  ∃ t2_2 : Int, (slices_IndexFunc_Weight.f a0 a1 t2_2) ∧ r = (decide (t2_2 ≥ 0))
theorem slices_ContainsFunc_Weight.D {a0 : List TWeight} {a1 : TWeight → Bool → Prop} {r : Bool} {c1_ : FuncId} {k1_ : List PV} (hg1_ : isGo Tryz.prog c1_ = true) (hk1_ : PV.free deep (.clo c1_ k1_) = true) (hka1_ : k1_.all (PV.free deep) = true) (hq1_ : ∀ x0_ y_, a1 x0_ y_ → D Tryz.prog X (.callH c1_ ([.agg (TWeight.lit x0_)] ++ k1_) [] (.val (.bool y_)) [])) (h : slices_ContainsFunc_Weight.f a0 a1 r) : D Tryz.prog X (.callH 70 [.rows (a0.map TWeight.cells), .clo c1_ k1_] [] (.val (.bool r)) []) := by
  unfold slices_ContainsFunc_Weight.f at h
  refine .enter 9 0 fn70 q q q<|.seq<|.reg0 q (.o (asV q)<|.nil0)<|.seq ?_
  obtain ⟨t2_2, g2_2, h⟩ := h
  refine .reg0 q (.o (mvR q)<|.o (mvF q)<|.callI q (callee_of q go117 q) (.pure (allCons q (allCons hk1_ q)) q (slices_IndexFunc_Weight.D hg1_ hk1_ hka1_ hq1_ g2_2))<|.o (geI q q)<|.a q<|.nil0) ?_
  replace h := h.symm
  subst h
  refine .kf [(4, bo (decide (t2_2 ≥ 0)))] q q ?_
  exact .ret q
def weight_bare.j1 : (Int × Int × (List Int) × (List TCell) × (List TWeight)) → Bool → Prop := fun (x20, x21, x22, x23, x24) r => r = ((x20 == 0) && ((x21 == 0) && ((IntKind.i64.wrap ((IntKind.i64.wrap ((x22.length : Int) + (x23.length : Int))) + (x24.length : Int))) == 0)))
def weight_bare.f (a0 : TWeight) (a1 : Int) (r : Bool) : Prop :=
  if a1 = 2 then (weight_bare.j1 (0, a0.Facts.Gen, a0.Facts.Rows, a0.Cells, a0.Parts) r) else (if a1 = 3 then (weight_bare.j1 (a0.Cost, 0, [], a0.Cells, a0.Parts) r) else (if a1 = 4 then (weight_bare.j1 (a0.Cost, a0.Facts.Gen, a0.Facts.Rows, [], a0.Parts) r) else (if a1 = 5 then (weight_bare.j1 (a0.Cost, a0.Facts.Gen, a0.Facts.Rows, a0.Cells, []) r) else (weight_bare.j1 (a0.Cost, a0.Facts.Gen, a0.Facts.Rows, a0.Cells, a0.Parts) r))))
theorem weight_bare.D {a0 a1 r} (h : weight_bare.f a0 a1 r) : D Tryz.prog X (.callH 118 [.agg (TWeight.lit a0), .val (.int .i64 a1)] [] (.val (.bool r)) []) := by
  unfold weight_bare.f at h
  refine .enter 43 0 fn118 q q q<|.seq<|.room 0<|.reg0 q (.o (bxP (s := 6) (cs := (TWeight.lit a0)) q ⟨q, by decide, q⟩ q)<|.o (asV q)<|.nil0)<|.seq<|.seq<|.reg0 q (.o (mvV q)<|.nil0)<|.block<|.seq<|.reg0 q (.o (eqI q q)<|.o (asV q)<|.nil0) ?_
  refine .consJ (fun s_ => weight_bare.j1 s_ r) (fun (x20, x21, x22, x23, x24) => listEnv [(2, .ptr 0 1 6 0 0)]) (fun (x20, x21, x22, x23, x24) => [⟨6, [[bo a0.Zero, i6 x20, u6 x21, .rows (x22.map (cInt .u64)), .rows (x23.map TCell.cells), .rows (x24.map TWeight.cells)]], 0, none⟩]) ?_ fun hJ1 => ?_
  · rintro ⟨x20, x21, x22, x23, x24⟩ h
    unfold weight_bare.j1 at h
    try dsimp only at h
    refine .inBlock<|.seq ?_
    refine .reg0 (e1 := listEnv [(4, bo ((x20 == 0) && ((x21 == 0) && ((IntKind.i64.wrap ((IntKind.i64.wrap ((x22.length : Int) + (x23.length : Int))) + (x24.length : Int))) == 0))))]) (H1 := [⟨6, [[bo a0.Zero, i6 x20, u6 x21, .rows (x22.map (cInt .u64)), .rows (x23.map TCell.cells), .rows (x24.map TWeight.cells)]], 0, none⟩]) q ?_ ?_
    · refine .o (faP fa33_1 q)<|.o (ldP q sz3 ag3 q)<|.o (eqI q q)<|.m q<|?_
      by_cases c13 : x20 = 0
      · refine .g q (bt c13) (faP fa33_2 q)<|.g q (bt c13) (faP fa29_0 q)<|.g q (bt c13) (ldP q sz26 ag26 q)<|.g q (bt c13) (eqI q q)<|.o (pkTV q (bt c13) q)<|.m q<|?_
        by_cases c14 : x21 = 0
        · exact (.g q (bt c14) (faP fa33_2 q)<|.g q (bt c14) (faP fa29_1 q)<|.g q (bt c14) (ldP q sz27 ag27 q)<|.g q (bt c14) (lnR (l := x22) sl27 q)<|.g q (bt c14) (faP fa33_3 q)<|.g q (bt c14) (ldP q sz30 ag30 q)<|.g q (bt c14) (lnR (l := x23) sl30 q)<|.g q (bt c14) (addI q q)<|.g q (bt c14) (faP fa33_4 q)<|.g q (bt c14) (ldP q sz31 ag31 q)<|.g q (bt c14) (lnR (l := x24) sl31 q)<|.g q (bt c14) (addI q q)<|.g q (bt c14) (eqI q q)<|.o (pkTV q (bt c14) q)<|.a q<|.nilL _ ⟨cB q (mAndT (bt c13) (mAndT (bt c14) q)), trivial⟩)
        · exact (.n q (bn c14)<|.n q (bn c14)<|.n q (bn c14)<|.n q (bn c14)<|.n q (bn c14)<|.n q (bn c14)<|.n q (bn c14)<|.n q (bn c14)<|.n q (bn c14)<|.n q (bn c14)<|.n q (bn c14)<|.n q (bn c14)<|.n q (bn c14)<|.o (pkFV q (bn c14) q)<|.a q<|.nilL _ ⟨cB q (mAndT (bt c13) (mAndF (bn c14))), trivial⟩)
      · exact (.n q (bn c13)<|.n q (bn c13)<|.n q (bn c13)<|.n q (bn c13)<|.o (pkFV q (bn c13) q)<|.m q<|.n q q<|.n q q<|.n q q<|.n q q<|.n q q<|.n q q<|.n q q<|.n q q<|.n q q<|.n q q<|.n q q<|.n q q<|.n q q<|.o (pkFV q q q)<|.a q<|.nilL _ ⟨cB q (mAndF (bn c13)), trivial⟩)
    replace h := h.symm
    subst h
    refine .kf [(4, bo ((x20 == 0) && ((x21 == 0) && ((IntKind.i64.wrap ((IntKind.i64.wrap ((x22.length : Int) + (x23.length : Int))) + (x24.length : Int))) == 0))))] q q ?_
    exact .ret q
  · by_cases c15 : a1 = 2
    · rw [if_pos c15] at h
      refine .condT q (bt c15)<|.reg0 q (.o (faP fa33_1 q)<|.o (stB (cs0 := (TWeight.lit a0)) (cs := [i6 0]) (cs1 := [bo a0.Zero, i6 0, u6 a0.Facts.Gen, .rows (a0.Facts.Rows.map (cInt .u64)), .rows (a0.Cells.map TCell.cells), .rows (a0.Parts.map TWeight.cells)]) q q sz3 q ⟨Nat.le_of_ble_eq_true q, q⟩ q)<|.nil0)<|.keepL [0] [(2, .ptr 0 1 6 0 0)] [⟨6, [[bo a0.Zero, i6 0, u6 a0.Facts.Gen, .rows (a0.Facts.Rows.map (cInt .u64)), .rows (a0.Cells.map TCell.cells), .rows (a0.Parts.map TWeight.cells)]], 0, none⟩] (by decide) (by decide) ⟨.ptr q, trivial⟩ ⟨⟨_, q, bcBox (all2_free q)⟩, trivial⟩ ?_
      exact hJ1 _ h
    · rw [if_neg c15] at h
      refine .condF q (bn c15)<|.seq<|.reg0 q (.o (eqI q q)<|.o (asV q)<|.nil0) ?_
      by_cases c16 : a1 = 3
      · rw [if_pos c16] at h
        refine .condT q (bt c16)<|.reg0 q (.o (bldS (cs := [u6 0, nul]) ze29 pl29 q q)<|.o (faP fa33_2 q)<|.o (stB (cs0 := (TWeight.lit a0)) (cs := [u6 0, nul]) (cs1 := [bo a0.Zero, i6 a0.Cost, u6 0, nul, .rows (a0.Cells.map TCell.cells), .rows (a0.Parts.map TWeight.cells)]) q q sz29 q ⟨Nat.le_of_ble_eq_true q, q⟩ q)<|.nil0)<|.keepL [0] [(2, .ptr 0 1 6 0 0)] [⟨6, [[bo a0.Zero, i6 a0.Cost, u6 0, .rows ([].map (cInt .u64)), .rows (a0.Cells.map TCell.cells), .rows (a0.Parts.map TWeight.cells)]], 0, none⟩] (by decide) (by decide) ⟨.ptr q, trivial⟩ ⟨⟨_, q, bcBox (.cons (.free q q)<|.cons (.free q q)<|.cons (.free q q)<|.cons (.nil)<|.cons (.free q q)<|.cons (.free q q)<|.nil)⟩, trivial⟩ ?_
        exact hJ1 _ h
      · rw [if_neg c16] at h
        refine .condF q (bn c16)<|.seq<|.reg0 q (.o (eqI q q)<|.o (asV q)<|.nil0) ?_
        by_cases c17 : a1 = 4
        · rw [if_pos c17] at h
          refine .condT q (bt c17)<|.reg0 q (.o (faP fa33_3 q)<|.o (stB (cs0 := (TWeight.lit a0)) (cs := [nul]) (cs1 := [bo a0.Zero, i6 a0.Cost, u6 a0.Facts.Gen, .rows (a0.Facts.Rows.map (cInt .u64)), nul, .rows (a0.Parts.map TWeight.cells)]) q q sz30 q ⟨Nat.le_of_ble_eq_true q, q⟩ q)<|.nil0)<|.keepL [0] [(2, .ptr 0 1 6 0 0)] [⟨6, [[bo a0.Zero, i6 a0.Cost, u6 a0.Facts.Gen, .rows (a0.Facts.Rows.map (cInt .u64)), .rows ([].map TCell.cells), .rows (a0.Parts.map TWeight.cells)]], 0, none⟩] (by decide) (by decide) ⟨.ptr q, trivial⟩ ⟨⟨_, q, bcBox (.cons (.free q q)<|.cons (.free q q)<|.cons (.free q q)<|.cons (.free q q)<|.cons (.nil)<|.cons (.free q q)<|.nil)⟩, trivial⟩ ?_
          exact hJ1 _ h
        · rw [if_neg c17] at h
          refine .condF q (bn c17)<|.seq<|.reg0 q (.o (eqI q q)<|.o (asV q)<|.nil0) ?_
          by_cases c18 : a1 = 5
          · rw [if_pos c18] at h
            refine .condT q (bt c18)<|.reg0 q (.o (faP fa33_4 q)<|.o (stB (cs0 := (TWeight.lit a0)) (cs := [nul]) (cs1 := [bo a0.Zero, i6 a0.Cost, u6 a0.Facts.Gen, .rows (a0.Facts.Rows.map (cInt .u64)), .rows (a0.Cells.map TCell.cells), nul]) q q sz31 q ⟨Nat.le_of_ble_eq_true q, q⟩ q)<|.nil0)<|.keepL [0] [(2, .ptr 0 1 6 0 0)] [⟨6, [[bo a0.Zero, i6 a0.Cost, u6 a0.Facts.Gen, .rows (a0.Facts.Rows.map (cInt .u64)), .rows (a0.Cells.map TCell.cells), .rows ([].map TWeight.cells)]], 0, none⟩] (by decide) (by decide) ⟨.ptr q, trivial⟩ ⟨⟨_, q, bcBox (.cons (.free q q)<|.cons (.free q q)<|.cons (.free q q)<|.cons (.free q q)<|.cons (.free q q)<|.cons (.nil)<|.nil)⟩, trivial⟩ ?_
            exact hJ1 _ h
          · rw [if_neg c18] at h
            refine .condF q (bn c18)<|.skip<|.keepL [0] [(2, .ptr 0 1 6 0 0)] [⟨6, [(TWeight.lit a0)], 0, none⟩] (by decide) (by decide) ⟨.ptr q, trivial⟩ ⟨⟨_, q, bcBox (all2_free q)⟩, trivial⟩ ?_
            exact hJ1 _ h
def cost_checks.b1 (a0 : Int) (a1 : List Int) : Int → Rnd Int Unit Int → Prop := fun x1 z1 => if x1 < (a1.length : Int) then (((InR x1 a1.length)) ∧ if ((decide ((rdl a1 x1) < (-1))) || (decide ((rdl a1 x1) > a0))) = true then (z1 = .ret 21) else (z1 = .next (IntKind.i64.wrap (x1 + 1)))) else (z1 = .exit ())
def cost_checks.f (a0 : Int) (a1 : List Int) (r : Int) : Prop :=
  if ((decide (a0 < 0)) || (decide (a0 > 1048576))) = true then (r = 20) else (∃ o1 : Fin Unit Int, Loop (cost_checks.b1 a0 a1) 0 o1 ∧ o1.on (fun _ => r = 0) (fun r_ => r = r_))
theorem cost_checks.D {a0 a1 r} (h : cost_checks.f a0 a1 r) : D Tryz.prog X (.callH 88 [.val (.int .i64 a0), .rows (a1.map (cInt .i64))] [] (.val (.int .i64 r)) []) := by
  unfold cost_checks.f at h
  refine .enter 27 0 fn88 q q q<|.seq<|.reg0 q (.o (asV q)<|.nil0)<|.seq<|.seq ?_
  refine .reg0 (e1 := listEnv [(0, i6 a0), (1, .rows (a1.map (cInt .i64))), (12, bo ((decide (a0 < 0)) || (decide (a0 > 1048576))))]) (H1 := []) q ?_ ?_
  · refine .m q<|.o (ltI q q)<|.m q<|?_
    by_cases c1 : a0 < 0
    · exact (.n q (dt c1)<|.n q (dt c1)<|.o (pkTV q (dt c1) q)<|.nilL _ ⟨.free q q, .free q q, cB q (mOrT (dt c1)), trivial⟩)
    · exact (.g q (df c1) (mvV q)<|.g q (df c1) (gtI q q)<|.o (pkFV q (df c1) q)<|.nilL _ ⟨.free q q, .free q q, cB q (mOrF (df c1) q), trivial⟩)
  by_cases c2 : ((decide (a0 < 0)) || (decide (a0 > 1048576))) = true
  · rw [if_pos c2] at h
    refine .condT q c2<|.seq<|.reg0 q (.o (asV q)<|.nil0) ?_
    replace h := h.symm
    subst h
    refine .kf [(4, i6 20)] q q ?_
    exact .ret q
  · rw [if_neg c2] at h
    refine .condF q (nb c2)<|.skip<|.seq<|.seq<|.reg0 q (.o (mvR q)<|.o (lnR (l := a1) sl152 q)<|.o (mvV q)<|.nil0)<|.block<|.keepL [] [(0, i6 a0), (13, .rows (a1.map (cInt .i64))), (14, i6 (a1.length : Int)), (15, i6 0)] [] (by decide) (by decide) ⟨.free q q, .free q q, .free q q, .free q q, trivial⟩ trivial ?_
    obtain ⟨o1, hL1, h⟩ := h
    refine .loopB (cost_checks.b1 a0 a1) (fun x1 => listEnv [(0, i6 a0), (13, .rows (a1.map (cInt .i64))), (14, i6 (a1.length : Int)), (15, i6 x1)]) (fun x1 => []) (fun _ => listEnv []) (fun _ => []) hL1 (fun r_ => r = r_) ?_ ?_ ?_
    · rintro ⟨⟩ rfl
      try dsimp only [Fin.on] at h
      refine .seq<|.reg0 q (.o (asV q)<|.nil0) ?_
      replace h := h.symm
      subst h
      refine .kf [(4, i6 0)] q q ?_
      exact .ret q
    · rintro r_ rfl
      exact h
    · rintro x1 z1 h hn1 hx1 hr1
      dsimp only [cost_checks.b1] at h
      refine .seq<|.reg0 q (.o (ltI q q)<|.nil0)<|.seq ?_
      by_cases c9 : x1 < (a1.length : Int)
      · rw [if_pos c9] at h
        refine .condT q (dt c9)<|.skip<|.seq<|.block<|.seq ?_
        obtain ⟨g16_0, h⟩ := h
        refine .reg0 q (.o (ixR (l := a1) (lit := (cInt .i64)) sl152 q q (fun _ => q) g16_0.1 g16_0.2)<|.o (ldC q sz3 ag3 q)<|.a q<|.nil0)<|.seq ?_
        refine .reg0 (e1 := listEnv [(0, i6 a0), (13, .rows (a1.map (cInt .i64))), (14, i6 (a1.length : Int)), (15, i6 x1), (25, bo ((decide ((rdl a1 x1) < (-1))) || (decide ((rdl a1 x1) > a0))))]) (H1 := []) q ?_ ?_
        · refine .m q<|.o (ltI q q)<|.m q<|?_
          by_cases c10 : (rdl a1 x1) < (-1)
          · exact (.n q (dt c10)<|.n q (dt c10)<|.n q (dt c10)<|.o (pkTV q (dt c10) q)<|.nilL _ ⟨.free q q, .free q q, .free q q, .free q q, cB q (mOrT (dt c10)), trivial⟩)
          · exact (.g q (df c10) (mvV q)<|.g q (df c10) (mvV q)<|.g q (df c10) (gtI q q)<|.o (pkFV q (df c10) q)<|.nilL _ ⟨.free q q, .free q q, .free q q, .free q q, cB q (mOrF (df c10) q), trivial⟩)
        by_cases c11 : ((decide ((rdl a1 x1) < (-1))) || (decide ((rdl a1 x1) > a0))) = true
        · rw [if_pos c11] at h
          refine .condT q c11<|.seq<|.reg0 q (.o (asV q)<|.nil0) ?_
          have q3 := hr1 _ h
          replace q3 := q3.symm
          subst q3
          refine .kf [(4, i6 21)] q q ?_
          exact .ret q
        · rw [if_neg c11] at h
          refine .condF q (nb c11)<|.skip<|.inBlock<|.reg0 q (.o (addI q q)<|.o (mvV q)<|.nil0)<|.kf [(0, i6 a0), (13, .rows (a1.map (cInt .i64))), (14, i6 (a1.length : Int)), (15, i6 (IntKind.i64.wrap (x1 + 1)))] q q ?_
          exact hn1 _ h
      · rw [if_neg c9] at h
        refine .condF q (df c9)<|.exit q<|.keepL [] [] [] (by decide) (by decide) trivial trivial ?_
        exact hx1 _ h
def cost_Check.f (a0 : Int) (a1 : Int) (r : Int) : Prop :=
  ∃ t2_3 : Int, (cost_checks.f a0 [a1] t2_3) ∧ r = t2_3
theorem cost_Check.D {a0 a1 r} (h : cost_Check.f a0 a1 r) : D Tryz.prog X (.callH 119 [.val (.int .i64 a0), .val (.int .i64 a1)] [] (.val (.int .i64 r)) []) := by
  unfold cost_Check.f at h
  refine .enter 9 0 fn119 q q q<|.seq<|.reg0 q (.o (asV q)<|.nil0)<|.seq ?_
  obtain ⟨t2_3, g2_3, h⟩ := h
  refine .room 0<|.reg0 q (.o (mvV q)<|.o (mvV q)<|.o (bldL (s := 1) (cs := [i6 a1]) un152 sz3 ze3 ⟨by decide, q, by decide⟩ q q q q)<|.callI q (callee_of q go88 q) (.lendC (args' := [i6 a0, .rows ([a1].map (cInt .i64))])  [0] false (.cons (.free q q)<|.cons (cFixO (l := [a1]) sl152 q q q q)<|.nil) (by decide) q q q q (cost_checks.D g2_3))<|.o (asV q)<|.nil0) ?_
  replace h := h.symm
  subst h
  refine .kf [(4, i6 t2_3)] q q ?_
  exact .ret q
def slices_IndexFunc_uint64.b1 (a0 : List Int) (a1 : Int → Bool → Prop) : Int → Rnd Int Unit Int → Prop := fun x1 z1 => if x1 < (a0.length : Int) then (((InR x1 a0.length)) ∧ ∃ t15_5 : Bool, (a1 (rdl a0 x1) t15_5) ∧ if t15_5 = true then (z1 = .ret x1) else (z1 = .next (IntKind.i64.wrap (x1 + 1)))) else (z1 = .exit ())
def slices_IndexFunc_uint64.f (a0 : List Int) (a1 : Int → Bool → Prop) (r : Int) : Prop :=
  ∃ o1 : Fin Unit Int, Loop (slices_IndexFunc_uint64.b1 a0 a1) 0 o1 ∧ o1.on (fun _ => r = (-1)) (fun r_ => r = r_)
theorem slices_IndexFunc_uint64.D {a0 : List Int} {a1 : Int → Bool → Prop} {r : Int} {c1_ : FuncId} {k1_ : List PV} (hg1_ : isGo Tryz.prog c1_ = true) (hk1_ : PV.free deep (.clo c1_ k1_) = true) (hka1_ : k1_.all (PV.free deep) = true) (hq1_ : ∀ x0_ y_, a1 x0_ y_ → D Tryz.prog X (.callH c1_ ([.val (.int .u64 x0_)] ++ k1_) [] (.val (.bool y_)) [])) (h : slices_IndexFunc_uint64.f a0 a1 r) : D Tryz.prog X (.callH 194 [.rows (a0.map (cInt .u64)), .clo c1_ k1_] [] (.val (.int .i64 r)) []) := by
  unfold slices_IndexFunc_uint64.f at h
  refine .enter 19 0 fn194 q q q<|.seq<|.reg0 q (.o (asV q)<|.nil0)<|.seq<|.seq<|.reg0 q (.o (mvR q)<|.o (lnR (l := a0) sl27 q)<|.o (mvV q)<|.nil0)<|.block<|.keepL [] [(0, .rows (a0.map (cInt .u64))), (1, .clo c1_ k1_), (7, i6 (a0.length : Int)), (8, i6 0)] [] (by decide) (by decide) ⟨.free q q, .free q hk1_, .free q q, .free q q, trivial⟩ trivial ?_
  obtain ⟨o1, hL1, h⟩ := h
  refine .loopB (slices_IndexFunc_uint64.b1 a0 a1) (fun x1 => listEnv [(0, .rows (a0.map (cInt .u64))), (1, .clo c1_ k1_), (7, i6 (a0.length : Int)), (8, i6 x1)]) (fun x1 => []) (fun _ => listEnv []) (fun _ => []) hL1 (fun r_ => r = r_) ?_ ?_ ?_
  · rintro ⟨⟩ rfl
    try dsimp only [Fin.on] at h
    refine .seq<|.reg0 q (.o (asV q)<|.nil0) ?_
    replace h := h.symm
    subst h
    refine .kf [(4, i6 (-1))] q q ?_
    exact .ret q
  · rintro r_ rfl
    exact h
  · rintro x1 z1 h hn1 hx1 hr1
    dsimp only [slices_IndexFunc_uint64.b1] at h
    refine .seq<|.reg0 q (.o (ltI q q)<|.nil0)<|.seq ?_
    by_cases c5 : x1 < (a0.length : Int)
    · rw [if_pos c5] at h
      refine .condT q (dt c5)<|.skip<|.seq<|.block<|.seq<|.reg0 q (.o (mvV q)<|.o (asV q)<|.nil0)<|.seq ?_
      obtain ⟨g15_3, h⟩ := h
      obtain ⟨t15_5, g15_5, h⟩ := h
      refine .reg0 q (.o (mvF q)<|.o (mvR q)<|.m q<|.o (ixR (l := a0) (lit := (cInt .u64)) sl27 q q (fun _ => q) g15_3.1 g15_3.2)<|.o (ldC q sz26 ag26 q)<|.callI q (callee_of q hg1_ q) (.pure (allCons q hka1_) q (hq1_ _ _ g15_5))<|.nil0) ?_
      by_cases c6 : t15_5 = true
      · rw [if_pos c6] at h
        refine .condT q c6<|.seq<|.reg0 q (.o (mvV q)<|.o (asV q)<|.nil0) ?_
        have q3 := hr1 _ h
        replace q3 := q3.symm
        subst q3
        refine .kf [(4, i6 x1)] q q ?_
        exact .ret q
      · rw [if_neg c6] at h
        refine .condF q (nb c6)<|.skip<|.inBlock<|.reg0 q (.o (addI q q)<|.o (mvV q)<|.nil0)<|.k [(0, .rows (a0.map (cInt .u64))), (1, .clo c1_ k1_), (7, i6 (a0.length : Int)), (8, i6 (IntKind.i64.wrap (x1 + 1)))] ⟨.free q q, .free q hk1_, .free q q, .free q q, trivial⟩ ?_
        exact hn1 _ h
    · rw [if_neg c5] at h
      refine .condF q (df c5)<|.exit q<|.keepL [] [] [] (by decide) (by decide) trivial trivial ?_
      exact hx1 _ h
def slices_ContainsFunc_uint64.f (a0 : List Int) (a1 : Int → Bool → Prop) (r : Bool) : Prop :=
  ∃ t2_2 : Int, (slices_IndexFunc_uint64.f a0 a1 t2_2) ∧ r = (decide (t2_2 ≥ 0))
theorem slices_ContainsFunc_uint64.D {a0 : List Int} {a1 : Int → Bool → Prop} {r : Bool} {c1_ : FuncId} {k1_ : List PV} (hg1_ : isGo Tryz.prog c1_ = true) (hk1_ : PV.free deep (.clo c1_ k1_) = true) (hka1_ : k1_.all (PV.free deep) = true) (hq1_ : ∀ x0_ y_, a1 x0_ y_ → D Tryz.prog X (.callH c1_ ([.val (.int .u64 x0_)] ++ k1_) [] (.val (.bool y_)) [])) (h : slices_ContainsFunc_uint64.f a0 a1 r) : D Tryz.prog X (.callH 172 [.rows (a0.map (cInt .u64)), .clo c1_ k1_] [] (.val (.bool r)) []) := by
  unfold slices_ContainsFunc_uint64.f at h
  refine .enter 9 0 fn172 q q q<|.seq<|.reg0 q (.o (asV q)<|.nil0)<|.seq ?_
  obtain ⟨t2_2, g2_2, h⟩ := h
  refine .reg0 q (.o (mvR q)<|.o (mvF q)<|.callI q (callee_of q go194 q) (.pure (allCons q (allCons hk1_ q)) q (slices_IndexFunc_uint64.D hg1_ hk1_ hka1_ hq1_ g2_2))<|.o (geI q q)<|.a q<|.nil0) ?_
  replace h := h.symm
  subst h
  refine .kf [(4, bo (decide (t2_2 ≥ 0)))] q q ?_
  exact .ret q
def facts_shaped_1.f (a0 : Int) (f0 : Int) (r : Bool) : Prop :=
  r = ((bitOp .andNot .u64 a0 f0) != 0)
theorem facts_shaped_1.D {a0 f0 r} (h : facts_shaped_1.f a0 f0 r) : D Tryz.prog X (.callH 173 [.val (.int .u64 a0), .cptr ((cInt .u64) f0) 0] [] (.val (.bool r)) []) := by
  unfold facts_shaped_1.f at h
  refine .enter 8 0 fn173 q q q<|.seq<|.reg0 q (.o (asV q)<|.nil0)<|.seq<|.reg0 q (.o (mvV q)<|.o (ldC q sz26 ag26 q)<|.o (andNotI q q)<|.o (neI q q)<|.o (asV q)<|.nil0) ?_
  replace h := h.symm
  subst h
  refine .kf [(3, bo ((bitOp .andNot .u64 a0 f0) != 0))] q q ?_
  exact .ret q
def facts_shaped.f (a0 : Int) (a1 : TFacts) (r : Int) : Prop :=
  ∃ t2_1 : Int × Int, (bits_Full.f a0 t2_1) ∧ if t2_1.2 = 0 then (∃ t4_16 : Bool, (((a1.Rows.length : Int) = a0) → ((bitOp .andNot .u64 a1.Gen t2_1.1) = 0) → slices_ContainsFunc_uint64.f a1.Rows (fun x0_ y_ => facts_shaped_1.f x0_ t2_1.1 y_) t4_16) ∧ if ((!((a1.Rows.length : Int) == a0)) || ((!((bitOp .andNot .u64 a1.Gen t2_1.1) == 0)) || t4_16)) = true then (r = 30) else (r = 0)) else (r = 31)
theorem facts_shaped.D {a0 a1 r} (h : facts_shaped.f a0 a1 r) : D Tryz.prog X (.callH 150 [.val (.int .i64 a0), .agg (TFacts.lit a1)] [] (.val (.int .i64 r)) []) := by
  unfold facts_shaped.f at h
  refine .enter 32 0 fn150 q q q<|.seq<|.room 0<|.reg0 q (.o (bxP (s := 2) (cs := (TFacts.lit a1)) q ⟨q, by decide, q⟩ q)<|.o (asV q)<|.nil0)<|.seq ?_
  obtain ⟨t2_1, g2_1, h⟩ := h
  refine .room 0<|.reg0 q (.o (mvV q)<|.callI q (callee_of q go115 q) (.pure q q (bits_Full.D g2_1))<|.o (mvT q)<|.o (exT q q)<|.o (exT q q)<|.op 1 q (alP (s := 1) ze26 ⟨q, by decide, q⟩ q)<|.o (stB (cs0 := [u6 0]) (cs := [u6 t2_1.1]) (cs1 := [u6 t2_1.1]) q q sz26 q ⟨Nat.le_of_ble_eq_true q, q⟩ q)<|.o (asV q)<|.nil0) ?_
  refine .seq<|.seq<|.reg0 q (.o (mvV q)<|.o (neI q q)<|.nil0) ?_
  by_cases c1 : t2_1.2 = 0
  · rw [if_pos c1] at h
    refine .condF q (nf c1)<|.skip<|.seq<|.seq ?_
    obtain ⟨t4_16, g4_16, h⟩ := h
    refine .reg0 (e1 := listEnv [(31, bo ((!((a1.Rows.length : Int) == a0)) || ((!((bitOp .andNot .u64 a1.Gen t2_1.1) == 0)) || t4_16)))]) (H1 := [⟨2, [(TFacts.lit a1)], 0, none⟩, ⟨1, [[u6 t2_1.1]], 0, none⟩]) q ?_ ?_
    · refine .o (faP fa29_1 q)<|.o (ldP q sz27 ag27 q)<|.o (lnR (l := a1.Rows) sl27 q)<|.m q<|.o (neI q q)<|.m q<|?_
      by_cases c2 : (a1.Rows.length : Int) = a0
      · refine .g q (nf c2) (faP fa29_0 q)<|.g q (nf c2) (ldP q sz26 ag26 q)<|.g q (nf c2) (ldP q sz26 ag26 q)<|.g q (nf c2) (andNotI q q)<|.g q (nf c2) (neI q q)<|.o (pkFV q (nf c2) q)<|.m q<|?_
        by_cases c3 : (bitOp .andNot .u64 a1.Gen t2_1.1) = 0
        · exact (.g q (nf c3) (faP fa29_1 q)<|.g q (nf c3) (ldP q sz27 ag27 q)<|.g q (nf c3) (mkF q)<|.callI (gT q q q (nf c3)) (callee_of q go172 q) (.lendC (args' := [.rows (a1.Rows.map (cInt .u64)), .clo 173 [.cptr [u6 t2_1.1] 0]])  [1] false (.cons (.free q q)<|.cons (cClo (.cons (cFixP q q (.cons (.free q q)<|.nil))<|.nil))<|.nil) (by decide) q q q q (slices_ContainsFunc_uint64.D (k1_ := [.cptr [u6 t2_1.1] 0]) go173 q q (fun x0_ y_ h_ => facts_shaped_1.D h_) (g4_16 c2 c3)))<|.o (pkFV q (nf c3) q)<|.nilL _ ⟨cB q (mOrF (bnotF (bt c2)) (mOrF (bnotF (bt c3)) q)), trivial⟩)
        · exact (.n q (nt c3)<|.n q (nt c3)<|.n q (nt c3)<|.n q (nt c3)<|.o (pkTV q (nt c3) q)<|.nilL _ ⟨cB q (mOrF (bnotF (bt c2)) (mOrT (bnotT (bn c3)))), trivial⟩)
      · exact (.n q (nt c2)<|.n q (nt c2)<|.n q (nt c2)<|.n q (nt c2)<|.n q (nt c2)<|.o (pkTV q (nt c2) q)<|.m q<|.n q q<|.n q q<|.n q q<|.n q q<|.o (pkTV q q q)<|.nilL _ ⟨cB q (mOrT (bnotT (bn c2))), trivial⟩)
    by_cases c4 : ((!((a1.Rows.length : Int) == a0)) || ((!((bitOp .andNot .u64 a1.Gen t2_1.1) == 0)) || t4_16)) = true
    · rw [if_pos c4] at h
      refine .condT q c4<|.seq<|.reg0 q (.o (asV q)<|.nil0) ?_
      replace h := h.symm
      subst h
      refine .kf [(4, i6 30)] q q ?_
      exact .ret q
    · rw [if_neg c4] at h
      refine .condF q (nb c4)<|.skip<|.seq<|.reg0 q (.o (asV q)<|.nil0) ?_
      replace h := h.symm
      subst h
      refine .kf [(4, i6 0)] q q ?_
      exact .ret q
  · rw [if_neg c1] at h
    refine .condT q (nt c1)<|.seq<|.reg0 q (.o (asV q)<|.nil0) ?_
    replace h := h.symm
    subst h
    refine .kf [(4, i6 31)] q q ?_
    exact .ret q
def facts_canon.b1 (a0 : TFacts) : ((List Int) × Int) → Rnd (((List Int) × Int)) ((List Int)) TFacts → Prop := fun (x1, x2) z1 => if x2 < (a0.Rows.length : Int) then (((InR x2 a0.Rows.length)) ∧ ((InR x2 x1.length)) ∧ z1 = .next ((setl x1 x2 (bitOp .andNot .u64 (rdl a0.Rows x2) a0.Gen)), (IntKind.i64.wrap (x2 + 1)))) else (z1 = .exit x1)
def facts_canon.f (a0 : TFacts) (r : TFacts) : Prop :=
  (((0 : Int) ≤ (a0.Rows.length : Int) ∧ Fits (a0.Rows.length : Int) 8)) ∧ ∃ o1 : Fin ((List Int)) TFacts, Loop (facts_canon.b1 a0) ((List.replicate (Int.toNat (a0.Rows.length : Int)) (0 : Int)), 0) o1 ∧ o1.on (fun x3 => r = (TFacts.mk a0.Gen x3)) (fun r_ => r = r_)
theorem facts_canon.D {a0 r} (h : facts_canon.f a0 r) : D Tryz.prog X (.callH 123 [.agg (TFacts.lit a0)] [] (.agg (TFacts.lit r)) []) := by
  unfold facts_canon.f at h
  refine .enter 31 0 fn123 q q q<|.seq<|.room 0<|.room 0<|.reg0 q (.o (bxP (s := 2) (cs := (TFacts.lit a0)) q ⟨q, by decide, q⟩ q)<|.op 1 q (alP (s := 2) ze29 ⟨q, by decide, q⟩ q)<|.nil0)<|.seq ?_
  obtain ⟨g2_5, h⟩ := h
  refine .room 0<|.room 0 ?_
  refine .reg1 (e1 := listEnv [(1, .ptr 0 1 2 0 0), (2, .ptr 1 1 2 0 0), (3, .ptr 3 1 2 0 0)]) (H1 := [⟨2, [(TFacts.lit a0)], 0, none⟩, ⟨2, [[u6 0, nul]], 0, none⟩, ⟨1, (List.replicate (Int.toNat (a0.Rows.length : Int)) (0 : Int)).map (cInt .u64), 0, none⟩, ⟨2, [[u6 a0.Gen, .own 2 ((List.replicate (Int.toNat (a0.Rows.length : Int)) (0 : Int)).length)]], 0, none⟩]) q ?_ ?_
  · exact .drawM [(7, 3, .ptr 3 1 2 0 0), (6, 12, .agg [u6 a0.Gen, .own 2 ((List.replicate (Int.toNat (a0.Rows.length : Int)) (0 : Int)).length)]), (5, 11, .own 2 ((List.replicate (Int.toNat (a0.Rows.length : Int)) (0 : Int)).length)), (4, 10, i6 (a0.Rows.length : Int)), (3, 9, .rows (a0.Rows.map (cInt .u64))), (2, 8, .ptr 0 1 2 0 1), (1, 7, u6 a0.Gen), (0, 6, .ptr 0 1 2 0 0)] [(8, 3, ⟨2, [[u6 a0.Gen, .own 2 ((List.replicate (Int.toNat (a0.Rows.length : Int)) (0 : Int)).length)]], 0, none⟩), (7, 3, ⟨2, [[u6 0, nul]], 0, none⟩), (5, 2, ⟨1, (List.replicate (Int.toNat (a0.Rows.length : Int)) (0 : Int)).map (cInt .u64), 0, none⟩)] [[], [0], [], [2], [3, 2], [4, 3, 2], [1, 0, 5, 4, 3, 2], [], [7, 6, 1, 0, 5, 4, 3, 2]] (by rfl) (by rfl) (by rfl) (by exact ⟨oP (fun _ => faP fa29_0 q) q, oP (fun _ => ldP q sz26 ag26 q) q, oP (fun _ => faP fa29_1 q) q, oP (fun _ => ldP q sz27 ag27 q) q, oP (fun _ => lnR (l := a0.Rows) sl27 q) q, oW 2 (fun _ => mkS (z0 := (0 : Int)) sl27 un27 ze26 q q g2_5.1 g2_5.2 q) q fun _ => q, oP (fun _ => bldS (cs := [u6 a0.Gen, .own 2 ((List.replicate (Int.toNat (a0.Rows.length : Int)) (0 : Int)).length)]) ze29 pl29 q q) q, oW 3 (fun _ => alP (s := 2) ze29 ⟨q, by decide, q⟩ q) q fun _ => q, fun S hS hD hn => .one0 0 q q (stB (cs0 := [u6 0, nul]) (cs := [u6 a0.Gen, .own 2 ((List.replicate (Int.toNat (a0.Rows.length : Int)) (0 : Int)).length)]) (cs1 := [u6 a0.Gen, .own 2 ((List.replicate (Int.toNat (a0.Rows.length : Int)) (0 : Int)).length)]) q q sz29 q ⟨Nat.le_of_ble_eq_true q, q⟩ q) (drawE_other _ _ _ _ q) q, trivial⟩) _ (by exact ⟨.ptr q, .ptr q, .ptr q, trivial⟩) (by rfl)
  refine .seq<|.seq<|.reg0 q (.o (faP fa29_1 q)<|.o (ldP q sz27 ag27 q)<|.o (lnR (l := a0.Rows) sl27 q)<|.o (mvV q)<|.nil0)<|.block<|.keepL [0, 1, 3, 2] [(1, .ptr 0 1 2 0 0), (2, .ptr 1 1 2 0 0), (3, .ptr 2 1 2 0 0), (14, .rows (a0.Rows.map (cInt .u64))), (15, i6 (a0.Rows.length : Int)), (16, i6 0)] [⟨2, [(TFacts.lit a0)], 0, none⟩, ⟨2, [[u6 0, nul]], 0, none⟩, ⟨2, [[u6 a0.Gen, .own 3 ((List.replicate (Int.toNat (a0.Rows.length : Int)) (0 : Int)).length)]], 0, none⟩, ⟨1, (List.replicate (Int.toNat (a0.Rows.length : Int)) (0 : Int)).map (cInt .u64), 0, none⟩] (by decide) (by decide) ⟨.ptr q, .ptr q, .ptr q, .free q q, .free q q, .free q q, trivial⟩ ⟨⟨_, q, bcBox (all2_free q)⟩, ⟨_, q, bcBox (all2_free q)⟩, ⟨_, q, bcBox (.cons (.free q q)<|.cons (.own q)<|.nil)⟩, ⟨_, q, bcRow (l := (List.replicate (Int.toNat (a0.Rows.length : Int)) (0 : Int))) sl27 (Nat.le_refl _) q⟩, trivial⟩ ?_
  obtain ⟨o1, hL1, h⟩ := h
  refine .loopB (facts_canon.b1 a0) (fun (x1, x2) => listEnv [(1, .ptr 0 1 2 0 0), (2, .ptr 1 1 2 0 0), (3, .ptr 2 1 2 0 0), (14, .rows (a0.Rows.map (cInt .u64))), (15, i6 (a0.Rows.length : Int)), (16, i6 x2)]) (fun (x1, x2) => [⟨2, [(TFacts.lit a0)], 0, none⟩, ⟨2, [[u6 0, nul]], 0, none⟩, ⟨2, [[u6 a0.Gen, .own 3 x1.length]], 0, none⟩, ⟨1, x1.map (cInt .u64), 0, none⟩]) (fun x3 => listEnv [(2, .ptr 0 1 2 0 0), (3, .ptr 1 1 2 0 0)]) (fun x3 => [⟨2, [[u6 0, nul]], 0, none⟩, ⟨2, [[u6 a0.Gen, .own 2 x3.length]], 0, none⟩, ⟨1, x3.map (cInt .u64), 0, none⟩]) hL1 (fun r_ => r = r_) ?_ ?_ ?_
  · rintro x3 rfl
    try dsimp only [Fin.on] at h
    refine .seq<|.reg0 q (.o (ldG q sz29 ag29 q)<|.o (stB (cs0 := [u6 0, nul]) (cs := [u6 a0.Gen, .own 2 x3.length]) (cs1 := [u6 a0.Gen, .own 2 x3.length]) q q sz29 q ⟨Nat.le_of_ble_eq_true q, q⟩ q)<|.nil0) ?_
    replace h := h.symm
    subst h
    refine .k [(2, .cptr [u6 a0.Gen, .rows (x3.map (cInt .u64))] 0)] ⟨cFixP q q (.cons (.free q q)<|.cons (cFixO (l := x3) sl27 q q q q)<|.nil), trivial⟩ ?_
    exact .ret q
  · rintro r_ rfl
    exact h
  · rintro ⟨x1, x2⟩ z1 h hn1 hx1 hr1
    dsimp only [facts_canon.b1] at h
    refine .seq<|.reg0 q (.o (ltI q q)<|.nil0)<|.seq ?_
    by_cases c3 : x2 < (a0.Rows.length : Int)
    · rw [if_pos c3] at h
      refine .condT q (dt c3)<|.skip<|.seq<|.block<|.seq ?_
      obtain ⟨g13_1, h⟩ := h
      refine .reg0 q (.m q<|.o (ixR (l := a0.Rows) (lit := (cInt .u64)) sl27 q q (fun _ => q) g13_1.1 g13_1.2)<|.o (ldC q sz26 ag26 q)<|.a q<|.a q<|.nil0) ?_
      obtain ⟨g14_7, h⟩ := h
      refine .reg0 q (.o (faP fa29_1 q)<|.o (ldP q sz27 ag27 q)<|.m q<|.m q<|.o (faP fa29_0 q)<|.o (ldP q sz26 ag26 q)<|.o (andNotI q q)<|.o (ixO (l := x1) sl27 q q q q g14_7.1 g14_7.2)<|.o (stO (l := x1) (j := x2) (cs := [u6 (bitOp .andNot .u64 (rdl a0.Rows x2) a0.Gen)]) (bitOp .andNot .u64 (rdl a0.Rows x2) a0.Gen) sl27 q q sz26 q q g14_7.1 g14_7.2 (Nat.zero_le _) ⟨Nat.le_of_ble_eq_true q, q⟩ q)<|.nil0) ?_
      refine .inBlock<|.reg0 q (.o (addI q q)<|.o (mvV q)<|.nil0)<|.keepL [0, 1, 2, 3] [(1, .ptr 0 1 2 0 0), (2, .ptr 1 1 2 0 0), (3, .ptr 2 1 2 0 0), (14, .rows (a0.Rows.map (cInt .u64))), (15, i6 (a0.Rows.length : Int)), (16, i6 (IntKind.i64.wrap (x2 + 1)))] [⟨2, [(TFacts.lit a0)], 0, none⟩, ⟨2, [[u6 0, nul]], 0, none⟩, ⟨2, [[u6 a0.Gen, .own 3 ((setl x1 x2 (bitOp .andNot .u64 (rdl a0.Rows x2) a0.Gen)).length)]], 0, none⟩, ⟨1, (setl x1 x2 (bitOp .andNot .u64 (rdl a0.Rows x2) a0.Gen)).map (cInt .u64), 0, none⟩] (by decide) (by decide) ⟨.ptr q, .ptr q, .ptr q, .free q q, .free q q, .free q q, trivial⟩ ⟨⟨_, q, bcBox (all2_free q)⟩, ⟨_, q, bcBox (all2_free q)⟩, ⟨_, q, bcBox (.cons (.free q q)<|.cons (cOwnE q (by simp only [setl, List.length_set]))<|.nil)⟩, ⟨_, q, bcRow (l := (setl x1 x2 (bitOp .andNot .u64 (rdl a0.Rows x2) a0.Gen))) sl27 (Nat.le_refl _) q⟩, trivial⟩ ?_
      exact hn1 _ h
    · rw [if_neg c3] at h
      refine .condF q (df c3)<|.exit q<|.keepL [1, 2, 3] [(2, .ptr 0 1 2 0 0), (3, .ptr 1 1 2 0 0)] [⟨2, [[u6 0, nul]], 0, none⟩, ⟨2, [[u6 a0.Gen, .own 2 x1.length]], 0, none⟩, ⟨1, x1.map (cInt .u64), 0, none⟩] (by decide) (by decide) ⟨.ptr q, .ptr q, trivial⟩ ⟨⟨_, q, bcBox (all2_free q)⟩, ⟨_, q, bcBox (.cons (.free q q)<|.cons (.own q)<|.nil)⟩, ⟨_, q, bcRow (l := x1) sl27 (Nat.le_refl _) q⟩, trivial⟩ ?_
      exact hx1 _ h
def slices_Equal_uint64.b1 (a0 : List Int) (a1 : List Int) : Int → Rnd Int Unit Bool → Prop := fun x1 z1 => if x1 < (a0.length : Int) then (((InR x1 a0.length)) ∧ ((InR x1 a1.length)) ∧ if (rdl a0 x1) = (rdl a1 x1) then (z1 = .next (IntKind.i64.wrap (x1 + 1))) else (z1 = .ret false)) else (z1 = .exit ())
def slices_Equal_uint64.f (a0 : List Int) (a1 : List Int) (r : Bool) : Prop :=
  if (a0.length : Int) = (a1.length : Int) then (∃ o1 : Fin Unit Bool, Loop (slices_Equal_uint64.b1 a0 a1) 0 o1 ∧ o1.on (fun _ => r = true) (fun r_ => r = r_)) else (r = false)
theorem slices_Equal_uint64.D {a0 a1 r} (h : slices_Equal_uint64.f a0 a1 r) : D Tryz.prog X (.callH 91 [.rows (a0.map (cInt .u64)), .rows (a1.map (cInt .u64))] [] (.val (.bool r)) []) := by
  unfold slices_Equal_uint64.f at h
  refine .enter 26 0 fn91 q q q<|.seq<|.reg0 q (.o (asV q)<|.nil0)<|.seq<|.seq<|.reg0 q (.o (mvR q)<|.o (lnR (l := a0) sl27 q)<|.o (mvR q)<|.o (lnR (l := a1) sl27 q)<|.o (neI q q)<|.nil0) ?_
  by_cases c1 : (a0.length : Int) = (a1.length : Int)
  · rw [if_pos c1] at h
    refine .condF q (nf c1)<|.skip<|.seq<|.seq<|.reg0 q (.o (mvR q)<|.o (lnR (l := a0) sl27 q)<|.o (mvV q)<|.nil0)<|.block<|.keepL [] [(0, .rows (a0.map (cInt .u64))), (1, .rows (a1.map (cInt .u64))), (12, i6 (a0.length : Int)), (13, i6 0)] [] (by decide) (by decide) ⟨.free q q, .free q q, .free q q, .free q q, trivial⟩ trivial ?_
    obtain ⟨o1, hL1, h⟩ := h
    refine .loopB (slices_Equal_uint64.b1 a0 a1) (fun x1 => listEnv [(0, .rows (a0.map (cInt .u64))), (1, .rows (a1.map (cInt .u64))), (12, i6 (a0.length : Int)), (13, i6 x1)]) (fun x1 => []) (fun _ => listEnv []) (fun _ => []) hL1 (fun r_ => r = r_) ?_ ?_ ?_
    · rintro ⟨⟩ rfl
      try dsimp only [Fin.on] at h
      refine .seq<|.reg0 q (.o (asV q)<|.nil0) ?_
      replace h := h.symm
      subst h
      refine .kf [(4, bo true)] q q ?_
      exact .ret q
    · rintro r_ rfl
      exact h
    · rintro x1 z1 h hn1 hx1 hr1
      dsimp only [slices_Equal_uint64.b1] at h
      refine .seq<|.reg0 q (.o (ltI q q)<|.nil0)<|.seq ?_
      by_cases c6 : x1 < (a0.length : Int)
      · rw [if_pos c6] at h
        refine .condT q (dt c6)<|.skip<|.seq<|.block<|.seq<|.reg0 q (.o (mvV q)<|.o (asV q)<|.nil0)<|.seq ?_
        obtain ⟨g16_2, h⟩ := h
        obtain ⟨g16_6, h⟩ := h
        refine .reg1 (e1 := listEnv [(0, .rows (a0.map (cInt .u64))), (1, .rows (a1.map (cInt .u64))), (12, i6 (a0.length : Int)), (13, i6 x1), (24, bo ((rdl a0 x1) != (rdl a1 x1)))]) (H1 := []) q ?_ ?_
        · exact .drawM [(8, 24, bo ((rdl a0 x1) != (rdl a1 x1))), (7, 23, u6 (rdl a1 x1)), (6, 22, .cptr ((cInt .u64) (rdl a1 x1)) 0), (5, 21, i6 x1), (4, 20, .rows (a1.map (cInt .u64))), (3, 19, u6 (rdl a0 x1)), (2, 18, .cptr ((cInt .u64) (rdl a0 x1)) 0), (1, 17, i6 x1), (0, 16, .rows (a0.map (cInt .u64)))] [] [[], [], [0, 1], [2, 0, 1], [], [], [4, 5], [6, 4, 5], [3, 2, 0, 1, 7, 6, 4, 5]] (by rfl) (by rfl) (by rfl) (by exact ⟨oP (fun _ => mvR q) q, oP (fun _ => mvV q) q, oP (fun _ => ixR (l := a0) (lit := (cInt .u64)) sl27 q q (fun _ => q) g16_2.1 g16_2.2) q, oP (fun _ => ldC q sz26 ag26 q) q, oP (fun _ => mvR q) q, oP (fun _ => mvV q) q, oP (fun _ => ixR (l := a1) (lit := (cInt .u64)) sl27 q q (fun _ => q) g16_6.1 g16_6.2) q, oP (fun _ => ldC q sz26 ag26 q) q, oP (fun _ => neI q q) q, trivial⟩) _ (by exact ⟨.free q q, .free q q, .free q q, .free q q, .free q q, trivial⟩) (by rfl)
        by_cases c7 : (rdl a0 x1) = (rdl a1 x1)
        · rw [if_pos c7] at h
          refine .condF q (nf c7)<|.skip<|.inBlock<|.reg0 q (.o (addI q q)<|.o (mvV q)<|.nil0)<|.kf [(0, .rows (a0.map (cInt .u64))), (1, .rows (a1.map (cInt .u64))), (12, i6 (a0.length : Int)), (13, i6 (IntKind.i64.wrap (x1 + 1)))] q q ?_
          exact hn1 _ h
        · rw [if_neg c7] at h
          refine .condT q (nt c7)<|.seq<|.reg0 q (.o (asV q)<|.nil0) ?_
          have q3 := hr1 _ h
          replace q3 := q3.symm
          subst q3
          refine .kf [(4, bo false)] q q ?_
          exact .ret q
      · rw [if_neg c6] at h
        refine .condF q (df c6)<|.exit q<|.keepL [] [] [] (by decide) (by decide) trivial trivial ?_
        exact hx1 _ h
  · rw [if_neg c1] at h
    refine .condT q (nt c1)<|.seq<|.reg0 q (.o (asV q)<|.nil0) ?_
    replace h := h.symm
    subst h
    refine .kf [(4, bo false)] q q ?_
    exact .ret q
def facts_Same.f (a0 : TFacts) (a1 : TFacts) (r : Bool) : Prop :=
  ∃ t2_10 : Bool, ((a0.Gen = a1.Gen) → slices_Equal_uint64.f a0.Rows a1.Rows t2_10) ∧ r = ((a0.Gen == a1.Gen) && t2_10)
theorem facts_Same.D {a0 a1 r} (h : facts_Same.f a0 a1 r) : D Tryz.prog X (.callH 56 [.agg (TFacts.lit a0), .agg (TFacts.lit a1)] [] (.val (.bool r)) []) := by
  unfold facts_Same.f at h
  refine .enter 17 0 fn56 q q q<|.seq<|.room 0<|.room 0<|.reg0 q (.o (bxP (s := 2) (cs := (TFacts.lit a0)) q ⟨q, by decide, q⟩ q)<|.op 1 q (bxP (s := 2) (cs := (TFacts.lit a1)) q ⟨q, by decide, q⟩ q)<|.o (asV q)<|.nil0)<|.seq ?_
  obtain ⟨t2_10, g2_10, h⟩ := h
  refine .reg0 (e1 := listEnv [(4, bo ((a0.Gen == a1.Gen) && t2_10))]) (H1 := [⟨2, [(TFacts.lit a0)], 0, none⟩, ⟨2, [(TFacts.lit a1)], 0, none⟩]) q ?_ ?_
  · refine .o (faP fa29_0 q)<|.o (ldP q sz26 ag26 q)<|.o (faP fa29_0 q)<|.o (ldP q sz26 ag26 q)<|.o (eqI q q)<|.m q<|?_
    by_cases c1 : a0.Gen = a1.Gen
    · exact (.g q (bt c1) (faP fa29_1 q)<|.g q (bt c1) (ldP q sz27 ag27 q)<|.g q (bt c1) (faP fa29_1 q)<|.g q (bt c1) (ldP q sz27 ag27 q)<|.callI (gT q q q (bt c1)) (callee_of q go91 q) (.pure q q (slices_Equal_uint64.D (g2_10 c1)))<|.o (pkTV q (bt c1) q)<|.a q<|.nilL _ ⟨cB q (mAndT (bt c1) q), trivial⟩)
    · exact (.n q (bn c1)<|.n q (bn c1)<|.n q (bn c1)<|.n q (bn c1)<|.n q (bn c1)<|.o (pkFV q (bn c1) q)<|.a q<|.nilL _ ⟨cB q (mAndF (bn c1)), trivial⟩)
  replace h := h.symm
  subst h
  refine .kf [(4, bo ((a0.Gen == a1.Gen) && t2_10))] q q ?_
  exact .ret q
def facts_Check.f (a0 : Int) (a1 : TFacts) (r : Int) : Prop :=
  ∃ t2_2 : Int, (facts_shaped.f a0 a1 t2_2) ∧ if t2_2 = 0 then (∃ t4_1 : TFacts, (facts_canon.f a1 t4_1) ∧ ∃ t4_3 : Bool, (facts_Same.f t4_1 a1 t4_3) ∧ if t4_3 = true then (r = 0) else (r = 30)) else (r = t2_2)
theorem facts_Check.D {a0 a1 r} (h : facts_Check.f a0 a1 r) : D Tryz.prog X (.callH 120 [.val (.int .i64 a0), .agg (TFacts.lit a1)] [] (.val (.int .i64 r)) []) := by
  unfold facts_Check.f at h
  refine .enter 17 0 fn120 q q q<|.seq<|.room 0<|.reg0 q (.o (bxP (s := 2) (cs := (TFacts.lit a1)) q ⟨q, by decide, q⟩ q)<|.o (asV q)<|.nil0)<|.seq<|.seq ?_
  obtain ⟨t2_2, g2_2, h⟩ := h
  refine .reg0 q (.m q<|.o (ldG q sz29 ag29 q)<|.c q go150 q q q (facts_shaped.D g2_2)<|.a q<|.nil0)<|.seq<|.reg0 q (.o (mvV q)<|.o (neI q q)<|.nil0) ?_
  by_cases c1 : t2_2 = 0
  · rw [if_pos c1] at h
    refine .condF q (nf c1)<|.skip<|.seq<|.seq ?_
    obtain ⟨t4_1, g4_1, h⟩ := h
    obtain ⟨t4_3, g4_3, h⟩ := h
    refine .reg1 (e1 := listEnv [(16, bo (!t4_3))]) (H1 := [⟨2, [(TFacts.lit a1)], 0, none⟩]) q ?_ ?_
    · exact .drawM [(4, 16, bo (!t4_3)), (3, 15, bo t4_3), (2, 14, .agg (TFacts.lit a1)), (1, 13, .agg (TFacts.lit t4_1)), (0, 12, .agg (TFacts.lit a1))] [] [[], [0], [], [1, 0, 2], [3, 1, 0, 2]] (by rfl) (by rfl) (by rfl) (by exact ⟨oP (fun _ => ldG q sz29 ag29 q) q, fun S hS hD hn => .oneI hS hD hn q q (callee_of q go123 q) (.pure q q (facts_canon.D g4_1)) q q q, oP (fun _ => ldG q sz29 ag29 q) q, fun S hS hD hn => .oneI hS hD hn q q (callee_of q go56 q) (.pure q q (facts_Same.D g4_3)) q q q, oP (fun _ => notB q) q, trivial⟩) _ (by exact ⟨.free q q, trivial⟩) (by rfl)
    by_cases c2 : t4_3 = true
    · rw [if_pos c2] at h
      refine .condF q (bnotF c2)<|.skip<|.seq<|.reg0 q (.o (asV q)<|.nil0) ?_
      replace h := h.symm
      subst h
      refine .kf [(4, i6 0)] q q ?_
      exact .ret q
    · rw [if_neg c2] at h
      refine .condT q (bnotT (nb c2))<|.seq<|.reg0 q (.o (asV q)<|.nil0) ?_
      replace h := h.symm
      subst h
      refine .kf [(4, i6 30)] q q ?_
      exact .ret q
  · rw [if_neg c1] at h
    refine .condT q (nt c1)<|.seq<|.reg0 q (.o (mvV q)<|.o (asV q)<|.nil0) ?_
    replace h := h.symm
    subst h
    refine .kf [(4, i6 t2_2)] q q ?_
    exact .ret q
def cells_mask.f (a0 : Int) (r : Int) : Prop :=
  if a0 ≥ 64 then (r = 18446744073709551615) else ((((0 : Int) ≤ a0)) ∧ r = (IntKind.u64.wrap ((shlI .u64 1 a0) - 1)))
theorem cells_mask.D {a0 r} (h : cells_mask.f a0 r) : D Tryz.prog X (.callH 174 [.val (.int .i64 a0)] [] (.val (.int .u64 r)) []) := by
  unfold cells_mask.f at h
  refine .enter 8 0 fn174 q q q<|.seq<|.reg0 q (.o (asV q)<|.nil0)<|.seq<|.seq<|.reg0 q (.o (mvV q)<|.o (geI q q)<|.nil0) ?_
  by_cases c1 : a0 ≥ 64
  · rw [if_pos c1] at h
    refine .condT q (dt c1)<|.seq<|.reg0 q (.o (asV q)<|.nil0) ?_
    replace h := h.symm
    subst h
    refine .kf [(2, u6 18446744073709551615)] q q ?_
    exact .ret q
  · rw [if_neg c1] at h
    refine .condF q (df c1)<|.skip<|.seq ?_
    obtain ⟨g4_1, h⟩ := h
    refine .reg0 q (.m q<|.o (shl_ q q g4_1)<|.o (subI q q)<|.a q<|.nil0) ?_
    replace h := h.symm
    subst h
    refine .kf [(2, u6 (IntKind.u64.wrap ((shlI .u64 1 a0) - 1)))] q q ?_
    exact .ret q
def cells_right.f (a0 : Int) (a1 : TCell) (r : Bool) : Prop :=
  ∃ t2_3 : Int, (cells_mask.f a0 t2_3) ∧ if (bitOp .andNot .u64 a1.From t2_3) = 0 then (if a1.Kind = 1 then (r = true) else (if a1.Kind = 0 then (r = (a1.K == 0)) else (if a1.Kind = 2 then (r = ((a1.From == 0) && ((a1.Kind == 2) && ((a1.K == 0) && true)))) else (r = false)))) else (r = false)
theorem cells_right.D {a0 a1 r} (h : cells_right.f a0 a1 r) : D Tryz.prog X (.callH 151 [.val (.int .i64 a0), .agg (TCell.lit a1)] [] (.val (.bool r)) []) := by
  unfold cells_right.f at h
  refine .enter 25 0 fn151 q q q<|.seq<|.room 0<|.reg0 q (.o (bxP (s := 3) (cs := (TCell.lit a1)) q ⟨q, by decide, q⟩ q)<|.o (asV q)<|.nil0)<|.seq<|.seq ?_
  obtain ⟨t2_3, g2_3, h⟩ := h
  refine .reg1 (e1 := listEnv [(3, .ptr 0 1 3 0 0), (10, bo ((bitOp .andNot .u64 a1.From t2_3) != 0))]) (H1 := [⟨3, [(TCell.lit a1)], 0, none⟩]) q ?_ ?_
  · exact .drawM [(5, 10, bo ((bitOp .andNot .u64 a1.From t2_3) != 0)), (4, 9, u6 (bitOp .andNot .u64 a1.From t2_3)), (3, 8, u6 t2_3), (2, 7, i6 a0), (1, 6, u6 a1.From), (0, 5, .ptr 0 1 3 0 0)] [] [[], [0], [], [2], [1, 0, 3, 2], [4, 1, 0, 3, 2]] (by rfl) (by rfl) (by rfl) (by exact ⟨oP (fun _ => faP fa74_0 q) q, oP (fun _ => ldP q sz26 ag26 q) q, oP (fun _ => mvV q) q, fun S hS hD hn => .oneI hS hD hn q q (callee_of q go174 q) (.pure q q (cells_mask.D g2_3)) q q q, oP (fun _ => andNotI q q) q, oP (fun _ => neI q q) q, trivial⟩) _ (by exact ⟨.ptr q, .free q q, trivial⟩) (by rfl)
  by_cases c1 : (bitOp .andNot .u64 a1.From t2_3) = 0
  · rw [if_pos c1] at h
    refine .condF q (nf c1)<|.skip<|.seq<|.seq<|.reg0 q (.o (faP fa74_1 q)<|.o (ldP q sz72 ag72 q)<|.nil0)<|.block<|.seq<|.reg0 q (.o (eqI q q)<|.o (asV q)<|.nil0) ?_
    by_cases c2 : a1.Kind = 1
    · rw [if_pos c2] at h
      refine .condT q (bt c2)<|.seq<|.reg0 q (.o (asV q)<|.nil0) ?_
      replace h := h.symm
      subst h
      refine .kf [(4, bo true)] q q ?_
      exact .ret q
    · rw [if_neg c2] at h
      refine .condF q (bn c2)<|.seq<|.reg0 q (.o (eqI q q)<|.o (asV q)<|.nil0) ?_
      by_cases c3 : a1.Kind = 0
      · rw [if_pos c3] at h
        refine .condT q (bt c3)<|.seq<|.reg0 q (.o (faP fa74_2 q)<|.o (ldP q sz2 ag2 q)<|.o (eqI q q)<|.o (asV q)<|.nil0) ?_
        replace h := h.symm
        subst h
        refine .kf [(4, bo (a1.K == 0))] q q ?_
        exact .ret q
      · rw [if_neg c3] at h
        refine .condF q (bn c3)<|.seq<|.reg0 q (.o (eqI q q)<|.o (asV q)<|.nil0) ?_
        by_cases c4 : a1.Kind = 2
        · rw [if_pos c4] at h
          refine .condT q (bt c4)<|.seq<|.reg0 q (.o (ldG q sz74 ag74 q)<|.o (bldS (cs := [u6 0, i6 2, i6 0]) ze74 pl74 q q)<|.o (eqS (xs := [.int .u64 a1.From, .int .i64 a1.Kind, .int .i64 a1.K]) (ys := [.int .u64 0, .int .i64 2, .int .i64 0]) ek74 q q q q q)<|.o (asV q)<|.nil0) ?_
          replace h := h.symm
          subst h
          refine .kf [(4, bo ((a1.From == 0) && ((a1.Kind == 2) && ((a1.K == 0) && true))))] q q ?_
          exact .ret q
        · rw [if_neg c4] at h
          refine .condF q (bn c4)<|.skip<|.inBlock<|.seq<|.reg0 q (.o (asV q)<|.nil0) ?_
          replace h := h.symm
          subst h
          refine .kf [(4, bo false)] q q ?_
          exact .ret q
  · rw [if_neg c1] at h
    refine .condT q (nt c1)<|.seq<|.reg0 q (.o (asV q)<|.nil0) ?_
    replace h := h.symm
    subst h
    refine .kf [(4, bo false)] q q ?_
    exact .ret q
def cells_Check.b1 (a0 : Int) (a1 : List TCell) : Int → Rnd Int Unit Int → Prop := fun x1 z1 => if x1 < (a1.length : Int) then (((InR x1 a1.length)) ∧ ∃ t18_2 : Bool, (cells_right.f a0 (rdl a1 x1) t18_2) ∧ if t18_2 = true then (z1 = .next (IntKind.i64.wrap (x1 + 1))) else (z1 = .ret 40)) else (z1 = .exit ())
def cells_Check.f (a0 : Int) (a1 : List TCell) (r : Int) : Prop :=
  ∃ t2_1 : Int, (cells_dims.f a0 t2_1) ∧ if t2_1 = 0 then (if (a1.length : Int) = a0 then (∃ o1 : Fin Unit Int, Loop (cells_Check.b1 a0 a1) 0 o1 ∧ o1.on (fun _ => r = 0) (fun r_ => r = r_)) else (r = 40)) else (r = t2_1)
theorem cells_Check.D {a0 a1 r} (h : cells_Check.f a0 a1 r) : D Tryz.prog X (.callH 121 [.val (.int .i64 a0), .rows (a1.map TCell.cells)] [] (.val (.int .i64 r)) []) := by
  unfold cells_Check.f at h
  refine .enter 28 0 fn121 q q q<|.seq<|.reg0 q (.o (asV q)<|.nil0)<|.seq<|.seq ?_
  obtain ⟨t2_1, g2_1, h⟩ := h
  refine .reg0 q (.m q<|.c q go89 q q q (cells_dims.D g2_1)<|.a q<|.nil0)<|.seq<|.reg0 q (.o (mvV q)<|.o (neI q q)<|.nil0) ?_
  by_cases c1 : t2_1 = 0
  · rw [if_pos c1] at h
    refine .condF q (nf c1)<|.skip<|.seq<|.seq<|.reg0 q (.o (mvR q)<|.o (lnR (l := a1) sl30 q)<|.o (mvV q)<|.o (neI q q)<|.nil0) ?_
    by_cases c2 : (a1.length : Int) = a0
    · rw [if_pos c2] at h
      refine .condF q (nf c2)<|.skip<|.seq<|.seq<|.reg0 q (.o (mvR q)<|.o (lnR (l := a1) sl30 q)<|.o (mvV q)<|.nil0)<|.block<|.keepL [] [(0, i6 a0), (17, .rows (a1.map TCell.cells)), (18, i6 (a1.length : Int)), (19, i6 0)] [] (by decide) (by decide) ⟨.free q q, .free q q, .free q q, .free q q, trivial⟩ trivial ?_
      obtain ⟨o1, hL1, h⟩ := h
      refine .loopB (cells_Check.b1 a0 a1) (fun x1 => listEnv [(0, i6 a0), (17, .rows (a1.map TCell.cells)), (18, i6 (a1.length : Int)), (19, i6 x1)]) (fun x1 => []) (fun _ => listEnv []) (fun _ => []) hL1 (fun r_ => r = r_) ?_ ?_ ?_
      · rintro ⟨⟩ rfl
        try dsimp only [Fin.on] at h
        refine .seq<|.reg0 q (.o (asV q)<|.nil0) ?_
        replace h := h.symm
        subst h
        refine .kf [(4, i6 0)] q q ?_
        exact .ret q
      · rintro r_ rfl
        exact h
      · rintro x1 z1 h hn1 hx1 hr1
        dsimp only [cells_Check.b1] at h
        refine .seq<|.reg0 q (.o (ltI q q)<|.nil0)<|.seq ?_
        by_cases c7 : x1 < (a1.length : Int)
        · rw [if_pos c7] at h
          refine .condT q (dt c7)<|.skip<|.seq<|.block<|.seq ?_
          obtain ⟨g17_0, h⟩ := h
          refine .room 0<|.reg0 q (.o (ixR (l := a1) (lit := TCell.lit) sl30 q q (fun _ => q) g17_0.1 g17_0.2)<|.o (ldCG q sz74 ag74 q)<|.o (alP (s := 3) ze74 ⟨q, by decide, q⟩ q)<|.o (stB (cs0 := [u6 0, i6 0, i6 0]) (cs := (TCell.lit (rdl a1 x1))) (cs1 := (TCell.lit (rdl a1 x1))) q q sz74 q ⟨Nat.le_of_ble_eq_true q, q⟩ q)<|.nil0) ?_
          refine .seq ?_
          obtain ⟨t18_2, g18_2, h⟩ := h
          refine .reg0 q (.m q<|.o (ldG q sz74 ag74 q)<|.c q go151 q q q (cells_right.D g18_2)<|.o (notB q)<|.nil0) ?_
          by_cases c8 : t18_2 = true
          · rw [if_pos c8] at h
            refine .condF q (bnotF c8)<|.skip<|.inBlock<|.reg0 q (.o (addI q q)<|.o (mvV q)<|.nil0)<|.kf [(0, i6 a0), (17, .rows (a1.map TCell.cells)), (18, i6 (a1.length : Int)), (19, i6 (IntKind.i64.wrap (x1 + 1)))] q q ?_
            exact hn1 _ h
          · rw [if_neg c8] at h
            refine .condT q (bnotT (nb c8))<|.seq<|.reg0 q (.o (asV q)<|.nil0) ?_
            have q3 := hr1 _ h
            replace q3 := q3.symm
            subst q3
            refine .kf [(4, i6 40)] q q ?_
            exact .ret q
        · rw [if_neg c7] at h
          refine .condF q (df c7)<|.exit q<|.keepL [] [] [] (by decide) (by decide) trivial trivial ?_
          exact hx1 _ h
    · rw [if_neg c2] at h
      refine .condT q (nt c2)<|.seq<|.reg0 q (.o (asV q)<|.nil0) ?_
      replace h := h.symm
      subst h
      refine .kf [(4, i6 40)] q q ?_
      exact .ret q
  · rw [if_neg c1] at h
    refine .condT q (nt c1)<|.seq<|.reg0 q (.o (mvV q)<|.o (asV q)<|.nil0) ?_
    replace h := h.symm
    subst h
    refine .kf [(4, i6 t2_1)] q q ?_
    exact .ret q
def weight_is.step (self72 : TSpace → TWeight → Bool → Prop) (a0 : TSpace) (a1 : TWeight) (r : Bool) : Prop :=
  if a1.Zero = true then (∃ t3_5 : Bool, (¬ (a0.Tag = 5) → weight_bare.f a1 0 t3_5) ∧ r = ((!(a0.Tag == 5)) && t3_5)) else (∃ t4_3 : Bool, (weight_bare.f a1 a0.Tag t4_3) ∧ if t4_3 = true then (if a0.Tag = 2 then (∃ t7_8 : Int, (¬ (a1.Cost = (-1)) → cost_Check.f a0.Dim a1.Cost t7_8) ∧ r = ((!(a1.Cost == (-1))) && (t7_8 == 0))) else (if a0.Tag = 3 then (∃ t9_4 : Int, (facts_Check.f a0.Dim a1.Facts t9_4) ∧ r = (t9_4 == 0)) else (if a0.Tag = 4 then (∃ t11_4 : Int, (cells_Check.f a0.Dim a1.Cells t11_4) ∧ r = (t11_4 == 0)) else (if a0.Tag = 5 then ((((a1.Parts.length : Int) = 2) → (InR 0 a0.Parts.length)) ∧ (((a1.Parts.length : Int) = 2) → (InR 0 a1.Parts.length)) ∧ ∃ t13_13 : Bool, (((a1.Parts.length : Int) = 2) → self72 (rdl a0.Parts 0) (rdl a1.Parts 0) t13_13) ∧ (((a1.Parts.length : Int) = 2) → (t13_13 = true) → (InR 1 a0.Parts.length)) ∧ (((a1.Parts.length : Int) = 2) → (t13_13 = true) → (InR 1 a1.Parts.length)) ∧ ∃ t13_24 : Bool, (((a1.Parts.length : Int) = 2) → (t13_13 = true) → self72 (rdl a0.Parts 1) (rdl a1.Parts 1) t13_24) ∧ r = (((a1.Parts.length : Int) == 2) && (t13_13 && t13_24))) else (r = true))))) else (r = false))
abbrev GE_A0 : List (List Nat) := [[], [0], [1, 0], [2, 1, 0], [3, 2, 1, 0], [4, 3, 2, 1, 0], [5, 4, 3, 2, 1, 0], [6, 5, 4, 3, 2, 1, 0], [7, 6, 5, 4, 3, 2, 1, 0], [4, 3, 2, 1, 0], [9, 4, 3, 2, 1, 0], [10, 9, 4, 3, 2, 1, 0], [11, 10, 9, 4, 3, 2, 1, 0], [8, 7, 6, 5, 4, 3, 2, 1, 0, 12, 11, 10, 9], [4, 3, 2, 1, 0, 13, 8, 7, 6, 5, 12, 11, 10, 9], [14, 4, 3, 2, 1, 0, 13, 8, 7, 6, 5, 12, 11, 10, 9], [15, 14, 4, 3, 2, 1, 0, 13, 8, 7, 6, 5, 12, 11, 10, 9], [16, 15, 14, 4, 3, 2, 1, 0, 13, 8, 7, 6, 5, 12, 11, 10, 9], [17, 16, 15, 14, 4, 3, 2, 1, 0, 13, 8, 7, 6, 5, 12, 11, 10, 9], [18, 17, 16, 15, 14, 4, 3, 2, 1, 0, 13, 8, 7, 6, 5, 12, 11, 10, 9], [15, 14, 4, 3, 2, 1, 0, 13, 8, 7, 6, 5, 12, 11, 10, 9], [20, 15, 14, 4, 3, 2, 1, 0, 13, 8, 7, 6, 5, 12, 11, 10, 9], [21, 20, 15, 14, 4, 3, 2, 1, 0, 13, 8, 7, 6, 5, 12, 11, 10, 9], [22, 21, 20, 15, 14, 4, 3, 2, 1, 0, 13, 8, 7, 6, 5, 12, 11, 10, 9], [19, 18, 17, 16, 15, 14, 4, 3, 2, 1, 0, 13, 8, 7, 6, 5, 12, 11, 10, 9, 23, 22, 21, 20], [15, 14, 4, 3, 2, 1, 0, 13, 8, 7, 6, 5, 12, 11, 10, 9, 24, 19, 18, 17, 16, 23, 22, 21, 20], [25, 15, 14, 4, 3, 2, 1, 0, 13, 8, 7, 6, 5, 12, 11, 10, 9, 24, 19, 18, 17, 16, 23, 22, 21, 20]]
theorem weight_is.stepD {self72 : TSpace → TWeight → Bool → Prop} {a0 : TSpace} {a1 : TWeight} (hs72 : ∀ z0_ z1_ r_, self72 z0_ z1_ r_ → D Tryz.prog X (.callH 72 [.agg (TSpace.lit z0_), .agg (TWeight.lit z1_)] [] (.val (.bool r_)) [])) {r : Bool} (h : weight_is.step self72 a0 a1 r) : D Tryz.prog X (.callH 72 [.agg (TSpace.lit a0), .agg (TWeight.lit a1)] [] (.val (.bool r)) []) := by
  unfold weight_is.step at h
  refine .enter 78 0 fn72 q q q<|.seq<|.room 0<|.room 0<|.reg0 q (.o (bxP (s := 3) (cs := (TSpace.lit a0)) q ⟨q, by decide, q⟩ q)<|.op 1 q (bxP (s := 6) (cs := (TWeight.lit a1)) q ⟨q, by decide, q⟩ q)<|.o (asV q)<|.nil0)<|.seq<|.seq<|.reg0 q (.o (faP fa33_0 q)<|.o (ldP q sz4 ag4 q)<|.nil0) ?_
  by_cases c1 : a1.Zero = true
  · rw [if_pos c1] at h
    refine .condT q c1<|.seq ?_
    obtain ⟨t3_5, g3_5, h⟩ := h
    refine .reg0 (e1 := listEnv [(4, bo ((!(a0.Tag == 5)) && t3_5))]) (H1 := [⟨3, [(TSpace.lit a0)], 0, none⟩, ⟨6, [(TWeight.lit a1)], 0, none⟩]) q ?_ ?_
    · refine .o (faP fa25_0 q)<|.o (ldP q sz22 ag22 q)<|.o (neI q q)<|.m q<|?_
      by_cases c2 : a0.Tag = 5
      · exact (.n q (nf c2)<|.n q (nf c2)<|.o (pkFV q (nf c2) q)<|.a q<|.nilL _ ⟨cB q (mAndF (bnotF (bt c2))), trivial⟩)
      · exact (.g q (nt c2) (ldG q sz33 ag33 q)<|.callI (gT q q q (nt c2)) (callee_of q go118 q) (.pure q q (weight_bare.D (g3_5 c2)))<|.o (pkTV q (nt c2) q)<|.a q<|.nilL _ ⟨cB q (mAndT (bnotT (bn c2)) q), trivial⟩)
    replace h := h.symm
    subst h
    refine .kf [(4, bo ((!(a0.Tag == 5)) && t3_5))] q q ?_
    exact .ret q
  · rw [if_neg c1] at h
    refine .condF q (nb c1)<|.skip<|.seq<|.seq ?_
    obtain ⟨t4_3, g4_3, h⟩ := h
    refine .reg0 q (.o (ldG q sz33 ag33 q)<|.o (faP fa25_0 q)<|.o (ldP q sz22 ag22 q)<|.c q go118 q q q (weight_bare.D g4_3)<|.o (notB q)<|.nil0) ?_
    by_cases c3 : t4_3 = true
    · rw [if_pos c3] at h
      refine .condF q (bnotF c3)<|.skip<|.seq<|.seq<|.reg0 q (.o (faP fa25_0 q)<|.o (ldP q sz22 ag22 q)<|.nil0)<|.block<|.seq<|.reg0 q (.o (eqI q q)<|.o (asV q)<|.nil0) ?_
      by_cases c4 : a0.Tag = 2
      · rw [if_pos c4] at h
        refine .condT q (bt c4)<|.seq ?_
        obtain ⟨t7_8, g7_8, h⟩ := h
        refine .reg0 (e1 := listEnv [(4, bo ((!(a1.Cost == (-1))) && (t7_8 == 0)))]) (H1 := [⟨3, [(TSpace.lit a0)], 0, none⟩, ⟨6, [(TWeight.lit a1)], 0, none⟩]) q ?_ ?_
        · refine .o (faP fa33_1 q)<|.o (ldP q sz3 ag3 q)<|.o (neI q q)<|.m q<|?_
          by_cases c5 : a1.Cost = (-1)
          · exact (.n q (nf c5)<|.n q (nf c5)<|.n q (nf c5)<|.n q (nf c5)<|.n q (nf c5)<|.n q (nf c5)<|.o (pkFV q (nf c5) q)<|.a q<|.nilL _ ⟨cB q (mAndF (bnotF (bt c5))), trivial⟩)
          · exact (.g q (nt c5) (faP fa25_1 q)<|.g q (nt c5) (ldP q sz3 ag3 q)<|.g q (nt c5) (faP fa33_1 q)<|.g q (nt c5) (ldP q sz3 ag3 q)<|.callI (gT q q q (nt c5)) (callee_of q go119 q) (.pure q q (cost_Check.D (g7_8 c5)))<|.g q (nt c5) (eqI q q)<|.o (pkTV q (nt c5) q)<|.a q<|.nilL _ ⟨cB q (mAndT (bnotT (bn c5)) q), trivial⟩)
        replace h := h.symm
        subst h
        refine .kf [(4, bo ((!(a1.Cost == (-1))) && (t7_8 == 0)))] q q ?_
        exact .ret q
      · rw [if_neg c4] at h
        refine .condF q (bn c4)<|.seq<|.reg0 q (.o (eqI q q)<|.o (asV q)<|.nil0) ?_
        by_cases c6 : a0.Tag = 3
        · rw [if_pos c6] at h
          refine .condT q (bt c6)<|.seq ?_
          obtain ⟨t9_4, g9_4, h⟩ := h
          refine .reg0 q (.o (faP fa25_1 q)<|.o (ldP q sz3 ag3 q)<|.o (faP fa33_2 q)<|.o (ldG q sz29 ag29 q)<|.c q go120 q q q (facts_Check.D g9_4)<|.o (eqI q q)<|.a q<|.nil0) ?_
          replace h := h.symm
          subst h
          refine .kf [(4, bo (t9_4 == 0))] q q ?_
          exact .ret q
        · rw [if_neg c6] at h
          refine .condF q (bn c6)<|.seq<|.reg0 q (.o (eqI q q)<|.o (asV q)<|.nil0) ?_
          by_cases c7 : a0.Tag = 4
          · rw [if_pos c7] at h
            refine .condT q (bt c7)<|.seq ?_
            obtain ⟨t11_4, g11_4, h⟩ := h
            refine .reg0 q (.o (faP fa25_1 q)<|.o (ldP q sz3 ag3 q)<|.o (faP fa33_3 q)<|.o (ldP q sz30 ag30 q)<|.c q go121 q q q (cells_Check.D g11_4)<|.o (eqI q q)<|.a q<|.nil0) ?_
            replace h := h.symm
            subst h
            refine .kf [(4, bo (t11_4 == 0))] q q ?_
            exact .ret q
          · rw [if_neg c7] at h
            refine .condF q (bn c7)<|.seq<|.reg0 q (.o (eqI q q)<|.o (asV q)<|.nil0) ?_
            by_cases c8 : a0.Tag = 5
            · rw [if_pos c8] at h
              refine .condT q (bt c8)<|.seq ?_
              obtain ⟨g13_7, h⟩ := h
              obtain ⟨g13_11, h⟩ := h
              obtain ⟨t13_13, g13_13, h⟩ := h
              obtain ⟨g13_18, h⟩ := h
              obtain ⟨g13_22, h⟩ := h
              obtain ⟨t13_24, g13_24, h⟩ := h
              refine .reg1 (e1 := listEnv [(4, bo (((a1.Parts.length : Int) == 2) && (t13_13 && t13_24)))]) (H1 := [⟨3, [(TSpace.lit a0)], 0, none⟩, ⟨6, [(TWeight.lit a1)], 0, none⟩]) q ?_ ?_
              · by_cases c9 : (a1.Parts.length : Int) = 2
                · by_cases c10 : t13_13 = true
                  · exact .drawM [(26, 4, bo t13_24), (25, 77, bo t13_24), (24, 76, bo t13_24), (23, 75, .agg (TWeight.lit (rdl a1.Parts 1))), (22, 74, .cptr (TWeight.lit (rdl a1.Parts 1)) 0), (21, 73, .rows (a1.Parts.map TWeight.cells)), (20, 72, .ptr 1 1 6 0 5), (19, 71, .agg (TSpace.lit (rdl a0.Parts 1))), (18, 70, .cptr (TSpace.lit (rdl a0.Parts 1)) 0), (17, 69, .rows (a0.Parts.map TSpace.cells)), (16, 68, .ptr 0 1 3 0 2), (15, 67, bo t13_13), (14, 66, bo t13_13), (13, 65, bo t13_13), (12, 64, .agg (TWeight.lit (rdl a1.Parts 0))), (11, 63, .cptr (TWeight.lit (rdl a1.Parts 0)) 0), (10, 62, .rows (a1.Parts.map TWeight.cells)), (9, 61, .ptr 1 1 6 0 5), (8, 60, .agg (TSpace.lit (rdl a0.Parts 0))), (7, 59, .cptr (TSpace.lit (rdl a0.Parts 0)) 0), (6, 58, .rows (a0.Parts.map TSpace.cells)), (5, 57, .ptr 0 1 3 0 2), (4, 56, bo ((a1.Parts.length : Int) == 2)), (3, 55, bo ((a1.Parts.length : Int) == 2)), (2, 54, i6 (a1.Parts.length : Int)), (1, 53, .rows (a1.Parts.map TWeight.cells)), (0, 52, .ptr 1 1 6 0 5)] [] GE_A0 (by rfl) (by rfl) (by rfl) (by exact ⟨oP (fun _ => faP fa33_4 q) q, oP (fun _ => ldP q sz31 ag31 q) q, oP (fun _ => lnR (l := a1.Parts) sl31 q) q, oP (fun _ => eqI q q) q, oP (fun _ => mvV q) q, oG q (fun _ => q) (bt c9) (fun _ => faP fa25_2 q) q, oG q (fun _ => q) (bt c9) (fun _ => ldP q sz23 ag23 q) q, oG q (fun _ => q) (bt c9) (fun _ => ixR (l := a0.Parts) (lit := TSpace.lit) sl23 q q TSpace.cells_lit (g13_7 c9).1 (g13_7 c9).2) q, oG q (fun _ => q) (bt c9) (fun _ => ldCG q sz25 ag25 q) q, oG q (fun _ => q) (bt c9) (fun _ => faP fa33_4 q) q, oG q (fun _ => q) (bt c9) (fun _ => ldP q sz31 ag31 q) q, oG q (fun _ => q) (bt c9) (fun _ => ixR (l := a1.Parts) (lit := TWeight.lit) sl31 q q TWeight.cells_lit (g13_11 c9).1 (g13_11 c9).2) q, oG q (fun _ => q) (bt c9) (fun _ => ldCG q sz33 ag33 q) q, fun S hS hD hn => .oneI hS hD hn (gT q q q (bt c9)) q (callee_of q go72 q) (.pure q q (hs72 _ _ _ (g13_13 c9))) q q q, oP (fun _ => pkTV q (bt c9) q) q, oP (fun _ => mvV q) q, oG q (fun _ => q) c10 (fun _ => faP fa25_2 q) q, oG q (fun _ => q) c10 (fun _ => ldP q sz23 ag23 q) q, oG q (fun _ => q) c10 (fun _ => ixR (l := a0.Parts) (lit := TSpace.lit) sl23 q q TSpace.cells_lit (g13_18 c9 c10).1 (g13_18 c9 c10).2) q, oG q (fun _ => q) c10 (fun _ => ldCG q sz25 ag25 q) q, oG q (fun _ => q) c10 (fun _ => faP fa33_4 q) q, oG q (fun _ => q) c10 (fun _ => ldP q sz31 ag31 q) q, oG q (fun _ => q) c10 (fun _ => ixR (l := a1.Parts) (lit := TWeight.lit) sl31 q q TWeight.cells_lit (g13_22 c9 c10).1 (g13_22 c9 c10).2) q, oG q (fun _ => q) c10 (fun _ => ldCG q sz33 ag33 q) q, fun S hS hD hn => .oneI hS hD hn (gT q q q c10) q (callee_of q go72 q) (.pure q q (hs72 _ _ _ (g13_24 c9 c10))) q q q, oP (fun _ => pkTV q c10 q) q, oP (fun _ => asV q) q, trivial⟩) _ (by exact ⟨cB q (mAndT (bt c9) (mAndT c10 q)), trivial⟩) (by rfl)
                  · exact .drawM [(26, 4, bo false), (25, 77, bo false), (24, 76, und), (23, 75, und), (22, 74, und), (21, 73, und), (20, 72, und), (19, 71, und), (18, 70, und), (17, 69, und), (16, 68, und), (15, 67, bo t13_13), (14, 66, bo t13_13), (13, 65, bo t13_13), (12, 64, .agg (TWeight.lit (rdl a1.Parts 0))), (11, 63, .cptr (TWeight.lit (rdl a1.Parts 0)) 0), (10, 62, .rows (a1.Parts.map TWeight.cells)), (9, 61, .ptr 1 1 6 0 5), (8, 60, .agg (TSpace.lit (rdl a0.Parts 0))), (7, 59, .cptr (TSpace.lit (rdl a0.Parts 0)) 0), (6, 58, .rows (a0.Parts.map TSpace.cells)), (5, 57, .ptr 0 1 3 0 2), (4, 56, bo ((a1.Parts.length : Int) == 2)), (3, 55, bo ((a1.Parts.length : Int) == 2)), (2, 54, i6 (a1.Parts.length : Int)), (1, 53, .rows (a1.Parts.map TWeight.cells)), (0, 52, .ptr 1 1 6 0 5)] [] GE_A0 (by rfl) (by rfl) (by rfl) (by exact ⟨oP (fun _ => faP fa33_4 q) q, oP (fun _ => ldP q sz31 ag31 q) q, oP (fun _ => lnR (l := a1.Parts) sl31 q) q, oP (fun _ => eqI q q) q, oP (fun _ => mvV q) q, oG q (fun _ => q) (bt c9) (fun _ => faP fa25_2 q) q, oG q (fun _ => q) (bt c9) (fun _ => ldP q sz23 ag23 q) q, oG q (fun _ => q) (bt c9) (fun _ => ixR (l := a0.Parts) (lit := TSpace.lit) sl23 q q TSpace.cells_lit (g13_7 c9).1 (g13_7 c9).2) q, oG q (fun _ => q) (bt c9) (fun _ => ldCG q sz25 ag25 q) q, oG q (fun _ => q) (bt c9) (fun _ => faP fa33_4 q) q, oG q (fun _ => q) (bt c9) (fun _ => ldP q sz31 ag31 q) q, oG q (fun _ => q) (bt c9) (fun _ => ixR (l := a1.Parts) (lit := TWeight.lit) sl31 q q TWeight.cells_lit (g13_11 c9).1 (g13_11 c9).2) q, oG q (fun _ => q) (bt c9) (fun _ => ldCG q sz33 ag33 q) q, fun S hS hD hn => .oneI hS hD hn (gT q q q (bt c9)) q (callee_of q go72 q) (.pure q q (hs72 _ _ _ (g13_13 c9))) q q q, oP (fun _ => pkTV q (bt c9) q) q, oP (fun _ => mvV q) q, oN q (fun _ => q) (nb c10) q, oN q (fun _ => q) (nb c10) q, oN q (fun _ => q) (nb c10) q, oN q (fun _ => q) (nb c10) q, oN q (fun _ => q) (nb c10) q, oN q (fun _ => q) (nb c10) q, oN q (fun _ => q) (nb c10) q, oN q (fun _ => q) (nb c10) q, oN q (fun _ => q) (nb c10) q, oP (fun _ => pkFV q (nb c10) q) q, oP (fun _ => asV q) q, trivial⟩) _ (by exact ⟨cB q (mAndT (bt c9) (mAndF (nb c10))), trivial⟩) (by rfl)
                · exact .drawM [(26, 4, bo false), (25, 77, bo false), (24, 76, und), (23, 75, und), (22, 74, und), (21, 73, und), (20, 72, und), (19, 71, und), (18, 70, und), (17, 69, und), (16, 68, und), (15, 67, bo false), (14, 66, bo false), (13, 65, und), (12, 64, und), (11, 63, und), (10, 62, und), (9, 61, und), (8, 60, und), (7, 59, und), (6, 58, und), (5, 57, und), (4, 56, bo ((a1.Parts.length : Int) == 2)), (3, 55, bo ((a1.Parts.length : Int) == 2)), (2, 54, i6 (a1.Parts.length : Int)), (1, 53, .rows (a1.Parts.map TWeight.cells)), (0, 52, .ptr 1 1 6 0 5)] [] GE_A0 (by rfl) (by rfl) (by rfl) (by exact ⟨oP (fun _ => faP fa33_4 q) q, oP (fun _ => ldP q sz31 ag31 q) q, oP (fun _ => lnR (l := a1.Parts) sl31 q) q, oP (fun _ => eqI q q) q, oP (fun _ => mvV q) q, oN q (fun _ => q) (bn c9) q, oN q (fun _ => q) (bn c9) q, oN q (fun _ => q) (bn c9) q, oN q (fun _ => q) (bn c9) q, oN q (fun _ => q) (bn c9) q, oN q (fun _ => q) (bn c9) q, oN q (fun _ => q) (bn c9) q, oN q (fun _ => q) (bn c9) q, oN q (fun _ => q) (bn c9) q, oP (fun _ => pkFV q (bn c9) q) q, oP (fun _ => mvV q) q, oN q (fun _ => q) q q, oN q (fun _ => q) q q, oN q (fun _ => q) q q, oN q (fun _ => q) q q, oN q (fun _ => q) q q, oN q (fun _ => q) q q, oN q (fun _ => q) q q, oN q (fun _ => q) q q, oN q (fun _ => q) q q, oP (fun _ => pkFV q q q) q, oP (fun _ => asV q) q, trivial⟩) _ (by exact ⟨cB q (mAndF (bn c9)), trivial⟩) (by rfl)
              replace h := h.symm
              subst h
              refine .kf [(4, bo (((a1.Parts.length : Int) == 2) && (t13_13 && t13_24)))] q q ?_
              exact .ret q
            · rw [if_neg c8] at h
              refine .condF q (bn c8)<|.skip<|.inBlock<|.seq<|.reg0 q (.o (asV q)<|.nil0) ?_
              replace h := h.symm
              subst h
              refine .kf [(4, bo true)] q q ?_
              exact .ret q
    · rw [if_neg c3] at h
      refine .condT q (bnotT (nb c3))<|.seq<|.reg0 q (.o (asV q)<|.nil0) ?_
      replace h := h.symm
      subst h
      refine .kf [(4, bo false)] q q ?_
      exact .ret q
def weight_is.fN : Nat → TSpace → TWeight → Bool → Prop
  | 0 => fun _ _ _ => False
  | n + 1 => weight_is.step (weight_is.fN n)
theorem weight_is.ND : ∀ (n : Nat) {a0 : TSpace} {a1 : TWeight} {r : Bool} (h : weight_is.fN n a0 a1 r), D Tryz.prog X (.callH 72 [.agg (TSpace.lit a0), .agg (TWeight.lit a1)] [] (.val (.bool r)) [])
  | 0, _, _, _, h => h.elim
  | n + 1, _, _, _, h => weight_is.stepD (fun _ _ _ h => weight_is.ND n h) h
def weight_is.f (a0 : TSpace) (a1 : TWeight) (r : Bool) : Prop := ∃ n, weight_is.fN n a0 a1 r
theorem weight_is.D {a0 a1 r} (h : weight_is.f a0 a1 r) : D Tryz.prog X (.callH 72 [.agg (TSpace.lit a0), .agg (TWeight.lit a1)] [] (.val (.bool r)) []) := by obtain ⟨n, h⟩ := h; exact weight_is.ND n h
def weight_checked_1.f (a0 : TWeight) (f0 : TSpace) (r : Bool) : Prop :=
  ∃ t2_2 : Bool, (weight_is.f f0 a0 t2_2) ∧ r = (!t2_2)
theorem weight_checked_1.D {a0 f0 r} (h : weight_checked_1.f a0 f0 r) : D Tryz.prog X (.callH 71 [.agg (TWeight.lit a0), .cptr (TSpace.lit f0) 0] [] (.val (.bool r)) []) := by
  unfold weight_checked_1.f at h
  refine .enter 8 0 fn71 q q q<|.seq<|.room 0<|.reg0 q (.o (bxP (s := 6) (cs := (TWeight.lit a0)) q ⟨q, by decide, q⟩ q)<|.o (asV q)<|.nil0)<|.seq ?_
  obtain ⟨t2_2, g2_2, h⟩ := h
  refine .reg0 q (.o (ldCG q sz25 ag25 q)<|.o (ldG q sz33 ag33 q)<|.c q go72 q q q (weight_is.D g2_2)<|.o (notB q)<|.a q<|.nil0) ?_
  replace h := h.symm
  subst h
  refine .kf [(3, bo (!t2_2))] q q ?_
  exact .ret q
def weight_checked.f (a0 : TSpace) (a1 : List TWeight) (r : Int) : Prop :=
  ∃ t2_1 : Int, (weight_Space.f a0 t2_1) ∧ if t2_1 = 0 then (∃ t4_2 : Bool, (slices_ContainsFunc_Weight.f a1 (fun x0_ y_ => weight_checked_1.f x0_ a0 y_) t4_2) ∧ if t4_2 = true then (r = 51) else (r = 0)) else (r = t2_1)
theorem weight_checked.D {a0 a1 r} (h : weight_checked.f a0 a1 r) : D Tryz.prog X (.callH 43 [.agg (TSpace.lit a0), .rows (a1.map TWeight.cells)] [] (.val (.int .i64 r)) []) := by
  unfold weight_checked.f at h
  refine .enter 14 0 fn43 q q q<|.seq<|.room 0<|.reg0 q (.o (bxP (s := 3) (cs := (TSpace.lit a0)) q ⟨q, by decide, q⟩ q)<|.o (asV q)<|.nil0)<|.seq<|.seq ?_
  obtain ⟨t2_1, g2_1, h⟩ := h
  refine .reg0 q (.o (ldG q sz25 ag25 q)<|.c q go29 q q q (weight_Space.D g2_1)<|.a q<|.nil0)<|.seq<|.reg0 q (.o (mvV q)<|.o (neI q q)<|.nil0) ?_
  by_cases c1 : t2_1 = 0
  · rw [if_pos c1] at h
    refine .condF q (nf c1)<|.skip<|.seq<|.seq ?_
    obtain ⟨t4_2, g4_2, h⟩ := h
    refine .reg0 q (.o (mvR q)<|.o (mkF q)<|.callI q (callee_of q go70 q) (.lendC (args' := [.rows (a1.map TWeight.cells), .clo 71 [.cptr (TSpace.lit a0) 0]])  [0] false (.cons (.free q q)<|.cons (cClo (.cons (cFixP q q (.cons (.free q q)<|.cons (.free q q)<|.cons (.free q q)<|.nil))<|.nil))<|.nil) (by decide) q q q q (slices_ContainsFunc_Weight.D (k1_ := [.cptr (TSpace.lit a0) 0]) go71 q q (fun x0_ y_ h_ => weight_checked_1.D h_) g4_2))<|.nil0) ?_
    by_cases c2 : t4_2 = true
    · rw [if_pos c2] at h
      refine .condT q c2<|.seq<|.reg0 q (.o (asV q)<|.nil0) ?_
      replace h := h.symm
      subst h
      refine .kf [(4, i6 51)] q q ?_
      exact .ret q
    · rw [if_neg c2] at h
      refine .condF q (nb c2)<|.skip<|.seq<|.reg0 q (.o (asV q)<|.nil0) ?_
      replace h := h.symm
      subst h
      refine .kf [(4, i6 0)] q q ?_
      exact .ret q
  · rw [if_neg c1] at h
    refine .condT q (nt c1)<|.seq<|.reg0 q (.o (mvV q)<|.o (asV q)<|.nil0) ?_
    replace h := h.symm
    subst h
    refine .kf [(4, i6 t2_1)] q q ?_
    exact .ret q
def cost_Least.j1 (x4 : Int) : Int → (Rnd ((Int × Int)) Int (Int × Int)) → Prop := fun x9 z1 => z1 = .next (x9, (IntKind.i64.wrap (x4 + 1)))
def cost_Least.b1 (a1 : List Int) : (Int × Int) → Rnd ((Int × Int)) Int (Int × Int) → Prop := fun (x3, x4) z1 => if x4 < (a1.length : Int) then (((InR x4 a1.length)) ∧ if ((x3 == (-1)) || ((!((rdl a1 x4) == (-1))) && (decide ((rdl a1 x4) < x3)))) = true then (cost_Least.j1 x4 (rdl a1 x4) z1) else (cost_Least.j1 x4 x3 z1)) else (z1 = .exit x3)
def cost_Least.f (a0 : Int) (a1 : List Int) (r : Int × Int) : Prop :=
  ∃ t2_2 : Int, (cost_checks.f a0 a1 t2_2) ∧ if t2_2 = 0 then (∃ o1 : Fin Int (Int × Int), Loop (cost_Least.b1 a1) ((-1), 0) o1 ∧ o1.on (fun x7 => r = (x7, 0)) (fun r_ => r = r_)) else (r = (0, t2_2))
theorem cost_Least.D {a0 a1 r} (h : cost_Least.f a0 a1 r) : D Tryz.prog X (.callH 73 [.val (.int .i64 a0), .rows (a1.map (cInt .i64))] [] (.tuple [.val (.int .i64 r.1), .val (.int .i64 r.2)]) []) := by
  unfold cost_Least.f at h
  refine .enter 36 0 fn73 q q q<|.seq<|.reg0 q (.o (asV q)<|.o (asV q)<|.nil0)<|.seq<|.seq ?_
  obtain ⟨t2_2, g2_2, h⟩ := h
  refine .reg0 q (.m q<|.o (mvR q)<|.c q go88 q q q (cost_checks.D g2_2)<|.a q<|.nil0)<|.seq<|.reg0 q (.o (mvV q)<|.o (neI q q)<|.nil0) ?_
  by_cases c1 : t2_2 = 0
  · rw [if_pos c1] at h
    refine .condF q (nf c1)<|.skip<|.seq<|.reg0 q (.o (asV q)<|.nil0)<|.seq<|.seq<|.reg0 q (.o (mvR q)<|.o (lnR (l := a1) sl152 q)<|.o (mvV q)<|.nil0)<|.block<|.keepL [] [(7, i6 (-1)), (16, .rows (a1.map (cInt .i64))), (17, i6 (a1.length : Int)), (18, i6 0)] [] (by decide) (by decide) ⟨.free q q, .free q q, .free q q, .free q q, trivial⟩ trivial ?_
    obtain ⟨o1, hL1, h⟩ := h
    refine .loopB (cost_Least.b1 a1) (fun (x3, x4) => listEnv [(7, i6 x3), (16, .rows (a1.map (cInt .i64))), (17, i6 (a1.length : Int)), (18, i6 x4)]) (fun (x3, x4) => []) (fun x7 => listEnv [(7, i6 x7)]) (fun x7 => []) hL1 (fun r_ => r = r_) ?_ ?_ ?_
    · rintro x7 rfl
      try dsimp only [Fin.on] at h
      refine .seq<|.reg0 q (.o (mvV q)<|.o (asV q)<|.o (asV q)<|.nil0) ?_
      replace h := h.symm
      subst h
      refine .kf [(4, i6 x7), (5, i6 0)] q q ?_
      exact .ret q
    · rintro r_ rfl
      exact h
    · rintro ⟨x3, x4⟩ z1 h hn1 hx1 hr1
      dsimp only [cost_Least.b1] at h
      refine .seq<|.reg0 q (.o (ltI q q)<|.nil0)<|.seq ?_
      by_cases c20 : x4 < (a1.length : Int)
      · rw [if_pos c20] at h
        refine .condT q (dt c20)<|.skip<|.seq<|.block<|.seq ?_
        obtain ⟨g31_0, h⟩ := h
        refine .reg0 q (.o (ixR (l := a1) (lit := (cInt .i64)) sl152 q q (fun _ => q) g31_0.1 g31_0.2)<|.o (ldC q sz3 ag3 q)<|.a q<|.nil0)<|.seq ?_
        refine .reg0 (e1 := listEnv [(7, i6 x3), (9, i6 (rdl a1 x4)), (16, .rows (a1.map (cInt .i64))), (17, i6 (a1.length : Int)), (18, i6 x4), (32, bo ((x3 == (-1)) || ((!((rdl a1 x4) == (-1))) && (decide ((rdl a1 x4) < x3)))))]) (H1 := []) q ?_ ?_
        · refine .m q<|.o (eqI q q)<|.m q<|?_
          by_cases c25 : x3 = (-1)
          · exact (.n q (bt c25)<|.n q (bt c25)<|.n q (bt c25)<|.u q<|.u q<|.u q<|.n q (bt c25)<|.o (pkTV q (bt c25) q)<|.nilL _ ⟨.free q q, .free q q, .free q q, .free q q, .free q q, cB q (mOrT (bt c25)), trivial⟩)
          · refine .g q (bn c25) (mvV q)<|.g q (bn c25) (neI q q)<|.g q (bn c25) (mvV q)<|?_
            by_cases c26 : (rdl a1 x4) = (-1)
            · exact (.n q (nf c26)<|.n q (nf c26)<|.n q (nf c26)<|.g q (bn c25) (pkFV q (nf c26) q)<|.o (pkFV q (bn c25) q)<|.nilL _ ⟨.free q q, .free q q, .free q q, .free q q, .free q q, cB q (mOrF (bn c25) (mAndF (bnotF (bt c26)))), trivial⟩)
            · exact (.g q (nt c26) (mvV q)<|.g q (nt c26) (mvV q)<|.g q (nt c26) (ltI q q)<|.g q (bn c25) (pkTV q (nt c26) q)<|.o (pkFV q (bn c25) q)<|.nilL _ ⟨.free q q, .free q q, .free q q, .free q q, .free q q, cB q (mOrF (bn c25) (mAndT (bnotT (bn c26)) q)), trivial⟩)
        refine .consJ (fun s_ => cost_Least.j1 x4 s_ z1) (fun x9 => listEnv [(7, i6 x9), (16, .rows (a1.map (cInt .i64))), (17, i6 (a1.length : Int)), (18, i6 x4)]) (fun x9 => []) ?_ fun hJ1 => ?_
        · rintro x9 h
          unfold cost_Least.j1 at h
          try dsimp only at h
          refine .inBlock<|.reg0 q (.o (addI q q)<|.o (mvV q)<|.nil0)<|.kf [(7, i6 x9), (16, .rows (a1.map (cInt .i64))), (17, i6 (a1.length : Int)), (18, i6 (IntKind.i64.wrap (x4 + 1)))] q q ?_
          exact hn1 _ h
        · by_cases c28 : ((x3 == (-1)) || ((!((rdl a1 x4) == (-1))) && (decide ((rdl a1 x4) < x3)))) = true
          · rw [if_pos c28] at h
            refine .condT q c28<|.reg0 q (.m q<|.a q<|.nil0)<|.kf [(7, i6 (rdl a1 x4)), (16, .rows (a1.map (cInt .i64))), (17, i6 (a1.length : Int)), (18, i6 x4)] q q ?_
            exact hJ1 _ h
          · rw [if_neg c28] at h
            refine .condF q (nb c28)<|.skip<|.keepL [] [(7, i6 x3), (16, .rows (a1.map (cInt .i64))), (17, i6 (a1.length : Int)), (18, i6 x4)] [] (by decide) (by decide) ⟨.free q q, .free q q, .free q q, .free q q, trivial⟩ trivial ?_
            exact hJ1 _ h
      · rw [if_neg c20] at h
        refine .condF q (df c20)<|.exit q<|.keepL [] [(7, i6 x3)] [] (by decide) (by decide) ⟨.free q q, trivial⟩ trivial ?_
        exact hx1 _ h
  · rw [if_neg c1] at h
    refine .condT q (nt c1)<|.seq<|.reg0 q (.o (mvV q)<|.o (asV q)<|.o (asV q)<|.nil0) ?_
    replace h := h.symm
    subst h
    refine .kf [(4, i6 0), (5, i6 t2_2)] q q ?_
    exact .ret q
end Go.RM.Tryz
