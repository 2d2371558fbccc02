/- GG, for the statement WeightSpaces: what it needs, no more. -/
import Derived.Test.YthjbpjpcddegfaaGreatDoorZWeightSpacesGF
set_option linter.unusedVariables false
set_option maxRecDepth 8000
set_option maxHeartbeats 4000000
namespace Go.RM.Tryz
open Go.RM Go.Proofs
abbrev GG_c0 : List PV := [bo false, i6 0, u6 0, nul, nul, nul]
abbrev GG_c1 : List PV := [bo false, i6 0, u6 0, .rows (([] : List Int).map (cInt .u64)), .rows (([] : List TCell).map TCell.cells), .rows (([] : List TWeight).map TWeight.cells)]
def facts_One.b1 (a0 : Int) : ((List Int) × Int) → Rnd (((List Int) × Int)) ((List Int)) (TFacts × Int) → Prop := fun (x1, x2) z1 => if x2 < ((List.replicate (Int.toNat a0) (0 : Int)).length : Int) then ((((0 : Int) ≤ (IntKind.u64.wrap x2))) ∧ ((InR x2 x1.length)) ∧ z1 = .next ((setl x1 x2 (shlI .u64 1 (IntKind.u64.wrap x2))), (IntKind.i64.wrap (x2 + 1)))) else (z1 = .exit x1)
def facts_One.f (a0 : Int) (r : TFacts × Int) : Prop :=
  ∃ t2_1 : Int × Int, (bits_Full.f a0 t2_1) ∧ if t2_1.2 = 0 then ((((0 : Int) ≤ a0 ∧ Fits a0 8)) ∧ ∃ o1 : Fin ((List Int)) (TFacts × Int), Loop (facts_One.b1 a0) ((List.replicate (Int.toNat a0) (0 : Int)), 0) o1 ∧ o1.on (fun x3 => r = ((TFacts.mk 0 x3), 0)) (fun r_ => r = r_)) else (r = ((TFacts.mk 0 []), 31))
theorem facts_One.D {a0 r} (h : facts_One.f a0 r) : D Tryz.prog X (.callH 68 [.val (.int .i64 a0)] [] (.tuple [.agg (TFacts.lit r.1), .val (.int .i64 r.2)]) []) := by
  unfold facts_One.f at h
  refine .enter 34 0 fn68 rfl rfl rfl <| .seq <| .room 0 <| .reg0 rfl (.op 0 rfl (alP (s := 2) ze29 ⟨rfl, by decide, rfl⟩ rfl) <| .op 0 rfl (asV rfl) <| .nil0) <| .seq <| .seq ?_
  obtain ⟨t2_1, g2_1, h⟩ := h
  refine .reg0 rfl (.m rfl <| .c rfl go115 rfl rfl rfl (bits_Full.D g2_1) <| .o (mvT rfl) <| .o (exT rfl rfl) <| .o (exT rfl rfl) <| .a rfl <| .a rfl <| .nil0) <| .seq <| .reg0 rfl (.op 0 rfl (mvV rfl) <| .op 0 rfl (neI rfl rfl) <| .nil0) ?_
  by_cases c1 : t2_1.2 = 0
  · rw [if_pos c1] at h
    refine .condF rfl (nf c1) <| .skip <| .seq ?_
    obtain ⟨g4_1, h⟩ := h
    refine .room 0 <| .room 0 <| .reg0 rfl (.op 0 rfl (mvV rfl) <| .op 1 rfl (mkS (z0 := (0 : Int)) sl27 un27 ze26 rfl rfl g4_1.1 g4_1.2 rfl) <| .op 0 rfl (bldS (cs := [u6 0, .own 1 ((List.replicate (Int.toNat a0) (0 : Int)).length)]) ze29 pl29 rfl rfl) <| .op 2 rfl (alP (s := 2) ze29 ⟨rfl, by decide, rfl⟩ rfl) <| .op 0 rfl (stB (cs0 := [u6 0, nul]) (cs := [u6 0, .own 1 ((List.replicate (Int.toNat a0) (0 : Int)).length)]) (cs1 := [u6 0, .own 1 ((List.replicate (Int.toNat a0) (0 : Int)).length)]) rfl rfl sz29 rfl ⟨Nat.le_of_ble_eq_true rfl, rfl⟩ rfl) <| .nil0) ?_
    refine .seq <| .seq <| .reg0 rfl (.op 0 rfl (faP fa29_1 rfl) <| .op 0 rfl (ldP rfl sz27 ag27 rfl) <| .op 0 rfl (lnO (l := (List.replicate (Int.toNat a0) (0 : Int))) sl27 rfl rfl rfl) <| .op 0 rfl (mvV rfl) <| .nil0) <| .block <| .keepL [0, 2, 1] [(2, .ptr 0 1 2 0 0), (6, .ptr 1 1 2 0 0), (21, i6 ((List.replicate (Int.toNat a0) (0 : Int)).length : Int)), (22, i6 0)] [⟨2, [[u6 0, nul]], 0, none⟩, ⟨2, [[u6 0, .own 2 ((List.replicate (Int.toNat a0) (0 : Int)).length)]], 0, none⟩, ⟨1, (List.replicate (Int.toNat a0) (0 : Int)).map (cInt .u64), 0, none⟩] (by decide) (by decide) ⟨.ptr rfl, .ptr rfl, .free rfl rfl, .free rfl rfl, trivial⟩ ⟨⟨_, rfl, bcBox (all2_free rfl)⟩, ⟨_, rfl, bcBox (.cons (.free rfl rfl) <| .cons (.own rfl) <| .nil)⟩, ⟨_, rfl, bcRow (l := (List.replicate (Int.toNat a0) (0 : Int))) sl27 (Nat.le_refl _) rfl⟩, trivial⟩ ?_
    obtain ⟨o1, hL1, h⟩ := h
    refine .loopB (facts_One.b1 a0) (fun (x1, x2) => listEnv [(2, .ptr 0 1 2 0 0), (6, .ptr 1 1 2 0 0), (21, i6 ((List.replicate (Int.toNat a0) (0 : Int)).length : Int)), (22, i6 x2)]) (fun (x1, x2) => [⟨2, [[u6 0, nul]], 0, none⟩, ⟨2, [[u6 0, .own 2 x1.length]], 0, none⟩, ⟨1, x1.map (cInt .u64), 0, none⟩]) (fun x3 => listEnv [(2, .ptr 0 1 2 0 0), (6, .ptr 1 1 2 0 0)]) (fun x3 => [⟨2, [[u6 0, nul]], 0, none⟩, ⟨2, [[u6 0, .own 2 x3.length]], 0, none⟩, ⟨1, x3.map (cInt .u64), 0, none⟩]) hL1 (fun r_ => r = r_) ?_ ?_ ?_
    · rintro x3 rfl
      try dsimp only [Fin.on] at h
      refine .seq <| .reg0 rfl (.op 0 rfl (ldG rfl sz29 ag29 rfl) <| .op 0 rfl (stB (cs0 := [u6 0, nul]) (cs := [u6 0, .own 2 x3.length]) (cs1 := [u6 0, .own 2 x3.length]) rfl rfl sz29 rfl ⟨Nat.le_of_ble_eq_true rfl, rfl⟩ rfl) <| .op 0 rfl (asV rfl) <| .nil0) ?_
      replace h := h.symm
      subst h
      refine .k [(2, .cptr [u6 0, .rows (x3.map (cInt .u64))] 0), (3, i6 0)] ⟨cFixP rfl rfl (.cons (.free rfl rfl) <| .cons (cFixO (l := x3) sl27 rfl rfl rfl rfl) <| .nil), .free rfl rfl, trivial⟩ ?_
      exact .ret rfl
    · rintro r_ rfl
      exact h
    · rintro ⟨x1, x2⟩ z1 h hn1 hx1 hr1
      dsimp only [facts_One.b1] at h
      refine .seq <| .reg0 rfl (.op 0 rfl (ltI rfl rfl) <| .nil0) <| .seq ?_
      by_cases c4 : x2 < ((List.replicate (Int.toNat a0) (0 : Int)).length : Int)
      · rw [if_pos c4] at h
        refine .condT rfl (dt c4) <| .skip <| .seq <| .block <| .seq <| .reg0 rfl (.op 0 rfl (mvV rfl) <| .op 0 rfl (asV rfl) <| .nil0) ?_
        obtain ⟨g16_5, h⟩ := h
        obtain ⟨g16_6, h⟩ := h
        refine .reg0 rfl (.o (faP fa29_1 rfl) <| .o (ldP rfl sz27 ag27 rfl) <| .m rfl <| .m rfl <| .o (convI un3 un145 rfl) <| .o (shl_ rfl rfl g16_5) <| .o (ixO (l := x1) sl27 rfl rfl rfl rfl g16_6.1 g16_6.2) <| .o (stO (l := x1) (j := x2) (cs := [u6 (shlI .u64 1 (IntKind.u64.wrap x2))]) (shlI .u64 1 (IntKind.u64.wrap x2)) sl27 rfl rfl sz26 rfl rfl g16_6.1 g16_6.2 (Nat.zero_le _) ⟨Nat.le_of_ble_eq_true rfl, rfl⟩ rfl) <| .nil0) ?_
        refine .inBlock <| .reg0 rfl (.op 0 rfl (addI rfl rfl) <| .op 0 rfl (mvV rfl) <| .nil0) <| .keepL [0, 1, 2] [(2, .ptr 0 1 2 0 0), (6, .ptr 1 1 2 0 0), (21, i6 ((List.replicate (Int.toNat a0) (0 : Int)).length : Int)), (22, i6 (IntKind.i64.wrap (x2 + 1)))] [⟨2, [[u6 0, nul]], 0, none⟩, ⟨2, [[u6 0, .own 2 ((setl x1 x2 (shlI .u64 1 (IntKind.u64.wrap x2))).length)]], 0, none⟩, ⟨1, (setl x1 x2 (shlI .u64 1 (IntKind.u64.wrap x2))).map (cInt .u64), 0, none⟩] (by decide) (by decide) ⟨.ptr rfl, .ptr rfl, .free rfl rfl, .free rfl rfl, trivial⟩ ⟨⟨_, rfl, bcBox (all2_free rfl)⟩, ⟨_, rfl, bcBox (.cons (.free rfl rfl) <| .cons (cOwnE rfl (by simp only [setl, List.length_set])) <| .nil)⟩, ⟨_, rfl, bcRow (l := (setl x1 x2 (shlI .u64 1 (IntKind.u64.wrap x2)))) sl27 (Nat.le_refl _) rfl⟩, trivial⟩ ?_
        exact hn1 _ h
      · rw [if_neg c4] at h
        refine .condF rfl (df c4) <| .exit rfl <| .keepL [0, 1, 2] [(2, .ptr 0 1 2 0 0), (6, .ptr 1 1 2 0 0)] [⟨2, [[u6 0, nul]], 0, none⟩, ⟨2, [[u6 0, .own 2 x1.length]], 0, none⟩, ⟨1, x1.map (cInt .u64), 0, none⟩] (by decide) (by decide) ⟨.ptr rfl, .ptr rfl, trivial⟩ ⟨⟨_, rfl, bcBox (all2_free rfl)⟩, ⟨_, rfl, bcBox (.cons (.free rfl rfl) <| .cons (.own rfl) <| .nil)⟩, ⟨_, rfl, bcRow (l := x1) sl27 (Nat.le_refl _) rfl⟩, trivial⟩ ?_
        exact hx1 _ h
  · rw [if_neg c1] at h
    refine .condT rfl (nt c1) <| .seq <| .reg0 rfl (.op 0 rfl (bldS (cs := [u6 0, nul]) ze29 pl29 rfl rfl) <| .op 0 rfl (stB (cs0 := [u6 0, nul]) (cs := [u6 0, nul]) (cs1 := [u6 0, nul]) rfl rfl sz29 rfl ⟨Nat.le_of_ble_eq_true rfl, rfl⟩ rfl) <| .op 0 rfl (asV rfl) <| .nil0) ?_
    replace h := h.symm
    subst h
    refine .k [(2, .cptr [u6 0, .rows (([] : List Int).map (cInt .u64))] 0), (3, i6 31)] ⟨cFixP rfl rfl (.cons (.free rfl rfl) <| .cons (.nil) <| .nil), .free rfl rfl, trivial⟩ ?_
    exact .ret rfl
def cells_one.b1 (a0 : Int) : ((List TCell) × Int) → Rnd (((List TCell) × Int)) ((List TCell)) ((List TCell)) → Prop := fun (x1, x2) z1 => if x2 < a0 then ((((0 : Int) ≤ x2)) ∧ ((InR x2 x1.length)) ∧ z1 = .next ((setl x1 x2 (TCell.mk (shlI .u64 1 x2) ((rdl x1 x2).Kind) ((rdl x1 x2).K))), (IntKind.i64.wrap (x2 + 1)))) else (z1 = .exit x1)
def cells_one.f (a0 : Int) (r : (List TCell)) : Prop :=
  (((0 : Int) ≤ a0 ∧ Fits a0 24)) ∧ ∃ o1 : Fin ((List TCell)) ((List TCell)), Loop (cells_one.b1 a0) ((List.replicate (Int.toNat a0) (TCell.mk 0 0 0)), 0) o1 ∧ o1.on (fun x3 => r = x3) (fun r_ => r = r_)
theorem cells_one.D {a0 r} (h : cells_one.f a0 r) : D Tryz.prog X (.callH 116 [.val (.int .i64 a0)] [] (.rows (r.map TCell.cells)) []) := by
  unfold cells_one.f at h
  refine .enter 19 0 fn116 rfl rfl rfl <| .seq <| .reg0 rfl (.op 0 rfl (asV rfl) <| .nil0) <| .seq ?_
  obtain ⟨g2_1, h⟩ := h
  refine .room 0 <| .reg0 rfl (.op 0 rfl (mvV rfl) <| .op 0 rfl (mkS (z0 := (TCell.mk 0 0 0)) sl30 un30 ze74 rfl rfl g2_1.1 g2_1.2 rfl) <| .op 0 rfl (asO rfl) <| .nil0) <| .seq <| .seq <| .reg0 rfl (.op 0 rfl (mvV rfl) <| .op 0 rfl (mvV rfl) <| .nil0) <| .block <| .keepL [0] [(3, .own 0 ((List.replicate (Int.toNat a0) (TCell.mk 0 0 0)).length)), (7, i6 a0), (8, i6 0)] [⟨3, (List.replicate (Int.toNat a0) (TCell.mk 0 0 0)).map TCell.cells, 0, none⟩] (by decide) (by decide) ⟨.own rfl, .free rfl rfl, .free rfl rfl, trivial⟩ ⟨⟨_, rfl, bcRow (l := (List.replicate (Int.toNat a0) (TCell.mk 0 0 0))) sl30 (Nat.le_refl _) rfl⟩, trivial⟩ ?_
  obtain ⟨o1, hL1, h⟩ := h
  refine .loopB (cells_one.b1 a0) (fun (x1, x2) => listEnv [(3, .own 0 x1.length), (7, i6 a0), (8, i6 x2)]) (fun (x1, x2) => [⟨3, x1.map TCell.cells, 0, none⟩]) (fun x3 => listEnv [(3, .own 0 x3.length)]) (fun x3 => [⟨3, x3.map TCell.cells, 0, none⟩]) hL1 (fun r_ => r = r_) ?_ ?_ ?_
  · rintro x3 rfl
    try dsimp only [Fin.on] at h
    refine .seq <| .reg0 rfl (.op 0 rfl (mvO rfl) <| .op 0 rfl (asO rfl) <| .nil0) ?_
    replace h := h.symm
    subst h
    refine .k [(2, .rows (x3.map TCell.cells))] ⟨cFixO (l := x3) sl30 rfl rfl rfl rfl, trivial⟩ ?_
    exact .ret rfl
  · rintro r_ rfl
    exact h
  · rintro ⟨x1, x2⟩ z1 h hn1 hx1 hr1
    dsimp only [cells_one.b1] at h
    refine .seq <| .reg0 rfl (.op 0 rfl (ltI rfl rfl) <| .nil0) <| .seq ?_
    by_cases c3 : x2 < a0
    · rw [if_pos c3] at h
      refine .condT rfl (dt c3) <| .skip <| .seq <| .block <| .seq <| .reg0 rfl (.op 0 rfl (mvV rfl) <| .op 0 rfl (asV rfl) <| .nil0) ?_
      obtain ⟨g14_3, h⟩ := h
      obtain ⟨g14_4, h⟩ := h
      refine .reg0 rfl (.o (mvO rfl) <| .m rfl <| .m rfl <| .o (shl_ rfl rfl g14_3) <| .o (ixO (l := x1) sl30 rfl rfl rfl rfl g14_4.1 g14_4.2) <| .o (faP fa74_0 rfl) <| .o (stO (l := x1) (j := x2) (cs := [u6 (shlI .u64 1 x2)]) (TCell.mk (shlI .u64 1 x2) ((rdl x1 x2).Kind) ((rdl x1 x2).K)) sl30 rfl rfl sz26 rfl rfl g14_4.1 g14_4.2 (Nat.zero_le _) ⟨Nat.le_of_ble_eq_true rfl, rfl⟩ rfl) <| .nil0) <| .inBlock <| .reg0 rfl (.op 0 rfl (addI rfl rfl) <| .op 0 rfl (mvV rfl) <| .nil0) ?_
      refine .keepL [0] [(3, .own 0 ((setl x1 x2 (TCell.mk (shlI .u64 1 x2) ((rdl x1 x2).Kind) ((rdl x1 x2).K))).length)), (7, i6 a0), (8, i6 (IntKind.i64.wrap (x2 + 1)))] [⟨3, (setl x1 x2 (TCell.mk (shlI .u64 1 x2) ((rdl x1 x2).Kind) ((rdl x1 x2).K))).map TCell.cells, 0, none⟩] (by decide) (by decide) ⟨cOwnE rfl (by simp only [setl, List.length_set]), .free rfl rfl, .free rfl rfl, trivial⟩ ⟨⟨_, rfl, bcRow (l := (setl x1 x2 (TCell.mk (shlI .u64 1 x2) ((rdl x1 x2).Kind) ((rdl x1 x2).K)))) sl30 (Nat.le_refl _) rfl⟩, trivial⟩ ?_
      exact hn1 _ h
    · rw [if_neg c3] at h
      refine .condF rfl (df c3) <| .exit rfl <| .keepL [0] [(3, .own 0 x1.length)] [⟨3, x1.map TCell.cells, 0, none⟩] (by decide) (by decide) ⟨.own rfl, trivial⟩ ⟨⟨_, rfl, bcRow (l := x1) sl30 (Nat.le_refl _) rfl⟩, trivial⟩ ?_
      exact hx1 _ h
def cells_One.f (a0 : Int) (r : (List TCell) × Int) : Prop :=
  ∃ t2_1 : Int, (cells_dims.f a0 t2_1) ∧ if t2_1 = 0 then (∃ t4_1 : (List TCell), (cells_one.f a0 t4_1) ∧ r = (t4_1, 0)) else (r = ([], t2_1))
theorem cells_One.D {a0 r} (h : cells_One.f a0 r) : D Tryz.prog X (.callH 69 [.val (.int .i64 a0)] [] (.tuple [.rows (r.1.map TCell.cells), .val (.int .i64 r.2)]) []) := by
  unfold cells_One.f at h
  refine .enter 12 0 fn69 rfl rfl rfl <| .seq <| .reg0 rfl (.op 0 rfl (asV rfl) <| .op 0 rfl (asV rfl) <| .nil0) <| .seq <| .seq ?_
  obtain ⟨t2_1, g2_1, h⟩ := h
  refine .reg0 rfl (.m rfl <| .c rfl go89 rfl rfl rfl (cells_dims.D g2_1) <| .a rfl <| .nil0) <| .seq <| .reg0 rfl (.op 0 rfl (mvV rfl) <| .op 0 rfl (neI rfl rfl) <| .nil0) ?_
  by_cases c1 : t2_1 = 0
  · rw [if_pos c1] at h
    refine .condF rfl (nf c1) <| .skip <| .seq ?_
    obtain ⟨t4_1, g4_1, h⟩ := h
    refine .reg0 rfl (.m rfl <| .c rfl go116 rfl rfl rfl (cells_one.D g4_1) <| .o (asR rfl) <| .a rfl <| .nil0) ?_
    replace h := h.symm
    subst h
    refine .kf [(2, .rows (t4_1.map TCell.cells)), (3, i6 0)] rfl rfl ?_
    exact .ret rfl
  · rw [if_neg c1] at h
    refine .condT rfl (nt c1) <| .seq <| .reg0 rfl (.op 0 rfl (mvV rfl) <| .op 0 rfl (asV rfl) <| .op 0 rfl (asV rfl) <| .nil0) ?_
    replace h := h.symm
    subst h
    refine .k [(2, .rows (([] : List TCell).map TCell.cells)), (3, i6 t2_1)] ⟨.nil, .free rfl rfl, trivial⟩ ?_
    exact .ret rfl
def weight_one.step (self40 : TSpace → TWeight → Prop) (a0 : TSpace) (r : TWeight) : Prop :=
  if a0.Tag = 3 then (∃ t5_2 : TFacts × Int, (facts_One.f a0.Dim t5_2) ∧ r = (TWeight.mk false 0 t5_2.1 [] [])) else (if a0.Tag = 4 then (∃ t8_2 : (List TCell) × Int, (cells_One.f a0.Dim t8_2) ∧ r = (TWeight.mk false 0 (TFacts.mk 0 []) t8_2.1 [])) else (if a0.Tag = 5 then (((InR 0 a0.Parts.length)) ∧ ∃ t11_4 : TWeight, (self40 (rdl a0.Parts 0) t11_4) ∧ ((InR 1 a0.Parts.length)) ∧ ∃ t11_9 : TWeight, (self40 (rdl a0.Parts 1) t11_9) ∧ r = (TWeight.mk false 0 (TFacts.mk 0 []) [] [t11_4, t11_9])) else (r = (TWeight.mk false 0 (TFacts.mk 0 []) [] []))))
theorem weight_one.stepD {self40 : TSpace → TWeight → Prop} {a0 : TSpace} (hs40 : ∀ z0_ r_, self40 z0_ r_ → D Tryz.prog X (.callH 40 [.agg (TSpace.lit z0_)] [] (.agg (TWeight.lit r_)) [])) {r : TWeight} (h : weight_one.step self40 a0 r) : D Tryz.prog X (.callH 40 [.agg (TSpace.lit a0)] [] (.agg (TWeight.lit r)) []) := by
  unfold weight_one.step at h
  refine .enter 39 0 fn40 rfl rfl rfl <| .seq <| .room 0 <| .room 0 <| .reg0 rfl (.op 0 rfl (bxP (s := 3) (cs := (TSpace.lit a0)) rfl ⟨rfl, by decide, rfl⟩ rfl) <| .op 1 rfl (alP (s := 6) ze33 ⟨rfl, by decide, rfl⟩ rfl) <| .nil0) <| .seq <| .room 0 <| .reg0 rfl (.op 2 rfl (alP (s := 6) ze33 ⟨rfl, by decide, rfl⟩ rfl) <| .nil0) <| .seq <| .seq <| .reg0 rfl (.op 0 rfl (faP fa25_0 rfl) <| .op 0 rfl (ldP rfl sz22 ag22 rfl) <| .nil0) ?_
  refine .block <| .seq <| .reg0 rfl (.op 0 rfl (eqI rfl rfl) <| .op 0 rfl (asV rfl) <| .nil0) ?_
  by_cases c1 : a0.Tag = 3
  · rw [if_pos c1] at h
    refine .condT rfl (bt c1) ?_
    obtain ⟨t5_2, g5_2, h⟩ := h
    refine .reg0 rfl (.o (faP fa25_1 rfl) <| .o (ldP rfl sz3 ag3 rfl) <| .c rfl go68 rfl rfl rfl (facts_One.D g5_2) <| .o (mvT rfl) <| .o (exT rfl rfl) <| .o (exT rfl rfl) <| .o (faP fa33_2 rfl) <| .o (stB (cs0 := GG_c0) (cs := (TFacts.lit t5_2.1)) (cs1 := [bo false, i6 0, u6 t5_2.1.Gen, .rows (t5_2.1.Rows.map (cInt .u64)), nul, nul]) rfl rfl sz29 rfl ⟨Nat.le_of_ble_eq_true rfl, rfl⟩ rfl) <| .nil0) ?_
    refine .inBlock <| .seq <| .reg0 rfl (.op 0 rfl (ldG rfl sz33 ag33 rfl) <| .op 0 rfl (stB (cs0 := GG_c0) (cs := [bo false, i6 0, u6 t5_2.1.Gen, .rows (t5_2.1.Rows.map (cInt .u64)), nul, nul]) (cs1 := [bo false, i6 0, u6 t5_2.1.Gen, .rows (t5_2.1.Rows.map (cInt .u64)), nul, nul]) rfl rfl sz33 rfl ⟨Nat.le_of_ble_eq_true rfl, rfl⟩ rfl) <| .nil0) ?_
    replace h := h.symm
    subst h
    refine .k [(2, .cptr [bo false, i6 0, u6 t5_2.1.Gen, .rows (t5_2.1.Rows.map (cInt .u64)), .rows (([] : List TCell).map TCell.cells), .rows (([] : List TWeight).map TWeight.cells)] 0)] ⟨cFixP rfl rfl (.cons (.free rfl rfl) <| .cons (.free rfl rfl) <| .cons (.free rfl rfl) <| .cons (.free rfl rfl) <| .cons (.nil) <| .cons (.nil) <| .nil), trivial⟩ ?_
    exact .ret rfl
  · rw [if_neg c1] at h
    refine .condF rfl (bn c1) <| .seq <| .reg0 rfl (.op 0 rfl (eqI rfl rfl) <| .op 0 rfl (asV rfl) <| .nil0) ?_
    by_cases c2 : a0.Tag = 4
    · rw [if_pos c2] at h
      refine .condT rfl (bt c2) ?_
      obtain ⟨t8_2, g8_2, h⟩ := h
      refine .reg0 rfl (.o (faP fa25_1 rfl) <| .o (ldP rfl sz3 ag3 rfl) <| .c rfl go69 rfl rfl rfl (cells_One.D g8_2) <| .o (mvT rfl) <| .o (exT rfl rfl) <| .o (exT rfl rfl) <| .o (faP fa33_3 rfl) <| .o (stB (cs0 := GG_c0) (cs := [.rows (t8_2.1.map TCell.cells)]) (cs1 := [bo false, i6 0, u6 0, nul, .rows (t8_2.1.map TCell.cells), nul]) rfl rfl sz30 rfl ⟨Nat.le_of_ble_eq_true rfl, rfl⟩ rfl) <| .nil0) ?_
      refine .inBlock <| .seq <| .reg0 rfl (.op 0 rfl (ldG rfl sz33 ag33 rfl) <| .op 0 rfl (stB (cs0 := GG_c0) (cs := [bo false, i6 0, u6 0, nul, .rows (t8_2.1.map TCell.cells), nul]) (cs1 := [bo false, i6 0, u6 0, nul, .rows (t8_2.1.map TCell.cells), nul]) rfl rfl sz33 rfl ⟨Nat.le_of_ble_eq_true rfl, rfl⟩ rfl) <| .nil0) ?_
      replace h := h.symm
      subst h
      refine .k [(2, .cptr [bo false, i6 0, u6 0, .rows (([] : List Int).map (cInt .u64)), .rows (t8_2.1.map TCell.cells), .rows (([] : List TWeight).map TWeight.cells)] 0)] ⟨cFixP rfl rfl (.cons (.free rfl rfl) <| .cons (.free rfl rfl) <| .cons (.free rfl rfl) <| .cons (.nil) <| .cons (.free rfl rfl) <| .cons (.nil) <| .nil), trivial⟩ ?_
      exact .ret rfl
    · rw [if_neg c2] at h
      refine .condF rfl (bn c2) <| .seq <| .reg0 rfl (.op 0 rfl (eqI rfl rfl) <| .op 0 rfl (asV rfl) <| .nil0) ?_
      by_cases c3 : a0.Tag = 5
      · rw [if_pos c3] at h
        refine .condT rfl (bt c3) ?_
        obtain ⟨g11_2, h⟩ := h
        obtain ⟨t11_4, g11_4, h⟩ := h
        obtain ⟨g11_7, h⟩ := h
        obtain ⟨t11_9, g11_9, h⟩ := h
        refine .room 0 ?_
        refine .reg1 (e1 := listEnv [(2, .ptr 1 1 6 0 0), (3, .ptr 2 1 6 0 0)]) (H1 := [⟨3, [(TSpace.lit a0)], 0, none⟩, ⟨6, [GG_c0], 0, none⟩, ⟨6, [[bo false, i6 0, u6 0, nul, nul, .own 3 ([t11_4, t11_9].length)]], 0, none⟩, ⟨6, [t11_4, t11_9].map TWeight.cells, 0, none⟩]) rfl ?_ ?_
        · exact .drawM [(11, 37, .ptr 2 1 6 0 5), (10, 36, .own 3 ([t11_4, t11_9].length)), (9, 35, .agg (TWeight.lit t11_9)), (8, 34, .agg (TSpace.lit (rdl a0.Parts 1))), (7, 33, .cptr (TSpace.lit (rdl a0.Parts 1)) 0), (6, 32, .rows (a0.Parts.map TSpace.cells)), (5, 31, .ptr 0 1 3 0 2), (4, 30, .agg (TWeight.lit t11_4)), (3, 29, .agg (TSpace.lit (rdl a0.Parts 0))), (2, 28, .cptr (TSpace.lit (rdl a0.Parts 0)) 0), (1, 27, .rows (a0.Parts.map TSpace.cells)), (0, 26, .ptr 0 1 3 0 2)] [(12, 2, ⟨6, [[bo false, i6 0, u6 0, nul, nul, .own 3 ([t11_4, t11_9].length)]], 0, none⟩), (10, 3, ⟨6, [t11_4, t11_9].map TWeight.cells, 0, none⟩)] [[], [0], [1, 0], [2, 1, 0], [3, 2, 1, 0], [], [5], [6, 5], [7, 6, 5], [8, 7, 6, 5, 4, 3, 2, 1, 0], [4, 3, 2, 1, 0, 9, 8, 7, 6, 5], [0, 1, 2, 3, 4, 5, 6, 7, 8, 9, 10], [11, 0, 1, 2, 3, 4, 5, 6, 7, 8, 9, 10]] (by rfl) (by rfl) (by rfl) (by exact ⟨oP (fun _ => faP fa25_2 rfl) rfl, oP (fun _ => ldP rfl sz23 ag23 rfl) rfl, oP (fun _ => ixR (l := a0.Parts) (lit := TSpace.lit) sl23 rfl rfl TSpace.cells_lit g11_2.1 g11_2.2) rfl, oP (fun _ => ldCG rfl sz25 ag25 rfl) rfl, fun S hS hD hn => .oneI hS hD hn rfl rfl (callee_of rfl go40 rfl) (.pure rfl rfl (hs40 _ _ g11_4)) rfl rfl rfl, oP (fun _ => faP fa25_2 rfl) rfl, oP (fun _ => ldP rfl sz23 ag23 rfl) rfl, oP (fun _ => ixR (l := a0.Parts) (lit := TSpace.lit) sl23 rfl rfl TSpace.cells_lit g11_7.1 g11_7.2) rfl, oP (fun _ => ldCG rfl sz25 ag25 rfl) rfl, fun S hS hD hn => .oneI hS hD hn rfl rfl (callee_of rfl go40 rfl) (.pure rfl rfl (hs40 _ _ g11_9)) rfl rfl rfl, oW 3 (fun _ => bldT (s := 6) (cs := [bo t11_4.Zero, i6 t11_4.Cost, u6 t11_4.Facts.Gen, .rows (t11_4.Facts.Rows.map (cInt .u64)), .rows (t11_4.Cells.map TCell.cells), .rows (t11_4.Parts.map TWeight.cells), bo t11_9.Zero, i6 t11_9.Cost, u6 t11_9.Facts.Gen, .rows (t11_9.Facts.Rows.map (cInt .u64)), .rows (t11_9.Cells.map TCell.cells), .rows (t11_9.Parts.map TWeight.cells)]) (cf := TWeight.cells) [t11_4, t11_9] un31 sz33 ze33 ⟨by decide, rfl, by decide⟩ rfl rfl rfl (by simp only [List.map, TWeight.cells_lit]; rfl) rfl) rfl fun _ => rfl, oP (fun _ => faP fa33_4 rfl) rfl, fun S hS hD hn => .one0 0 rfl rfl (stB (cs0 := GG_c0) (cs := [.own 3 ([t11_4, t11_9].length)]) (cs1 := [bo false, i6 0, u6 0, nul, nul, .own 3 ([t11_4, t11_9].length)]) rfl rfl sz31 rfl ⟨Nat.le_of_ble_eq_true rfl, rfl⟩ rfl) (drawE_other _ _ _ _ rfl) rfl, trivial⟩) _ (by exact ⟨.ptr rfl, .ptr rfl, trivial⟩) (by rfl)
        refine .inBlock <| .seq <| .reg0 rfl (.op 0 rfl (ldG rfl sz33 ag33 rfl) <| .op 0 rfl (stB (cs0 := GG_c0) (cs := [bo false, i6 0, u6 0, nul, nul, .own 3 ([t11_4, t11_9].length)]) (cs1 := [bo false, i6 0, u6 0, nul, nul, .own 3 ([t11_4, t11_9].length)]) rfl rfl sz33 rfl ⟨Nat.le_of_ble_eq_true rfl, rfl⟩ rfl) <| .nil0) ?_
        replace h := h.symm
        subst h
        refine .k [(2, .cptr [bo false, i6 0, u6 0, .rows (([] : List Int).map (cInt .u64)), .rows (([] : List TCell).map TCell.cells), .rows ([t11_4, t11_9].map TWeight.cells)] 0)] ⟨cFixP rfl rfl (.cons (.free rfl rfl) <| .cons (.free rfl rfl) <| .cons (.free rfl rfl) <| .cons (.nil) <| .cons (.nil) <| .cons (cFixO (l := [t11_4, t11_9]) sl31 rfl rfl rfl rfl) <| .nil), trivial⟩ ?_
        exact .ret rfl
      · rw [if_neg c3] at h
        refine .condF rfl (bn c3) <| .skip <| .inBlock <| .seq <| .reg0 rfl (.op 0 rfl (ldG rfl sz33 ag33 rfl) <| .op 0 rfl (stB (cs0 := GG_c0) (cs := GG_c0) (cs1 := GG_c0) rfl rfl sz33 rfl ⟨Nat.le_of_ble_eq_true rfl, rfl⟩ rfl) <| .nil0) ?_
        replace h := h.symm
        subst h
        refine .k [(2, .cptr GG_c1 0)] ⟨cFixP rfl rfl (.cons (.free rfl rfl) <| .cons (.free rfl rfl) <| .cons (.free rfl rfl) <| .cons (.nil) <| .cons (.nil) <| .cons (.nil) <| .nil), trivial⟩ ?_
        exact .ret rfl
def weight_one.fN : Nat → TSpace → TWeight → Prop
  | 0 => fun _ _ => False
  | n + 1 => weight_one.step (weight_one.fN n)
theorem weight_one.ND : ∀ (n : Nat) {a0 : TSpace} {r : TWeight} (h : weight_one.fN n a0 r), D Tryz.prog X (.callH 40 [.agg (TSpace.lit a0)] [] (.agg (TWeight.lit r)) [])
  | 0, _, _, h => h.elim
  | n + 1, _, _, h => weight_one.stepD (fun _ _ h => weight_one.ND n h) h
def weight_one.f (a0 : TSpace) (r : TWeight) : Prop := ∃ n, weight_one.fN n a0 r
theorem weight_one.D {a0 r} (h : weight_one.f a0 r) : D Tryz.prog X (.callH 40 [.agg (TSpace.lit a0)] [] (.agg (TWeight.lit r)) []) := by obtain ⟨n, h⟩ := h; exact weight_one.ND n h
end Go.RM.Tryz
