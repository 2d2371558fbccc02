/- GL, for the statement StepsParts: what it needs, no more. -/
import Derived.Test.YtkcmehgfndfbhaaGreatDoorZStepsPartsGK
set_option linter.unusedVariables false
set_option maxRecDepth 8000
set_option maxHeartbeats 4000000
namespace Go.RM.Tryz
open Go.RM Go.Proofs
abbrev GL_c0 : List PV := [bo false, i6 0, u6 0, nul, nul, nul]
def r05_all.b1 (a0 : TSpace) (a1 : List TWeight) : Int → Rnd Int Unit Int → Prop := fun x1 z1 => if x1 < (a1.length : Int) then (((InR x1 a1.length)) ∧ ∃ t13_5 : Bool, (r05_is.f a0 (rdl a1 x1) t13_5) ∧ if t13_5 = true then (z1 = .next (IntKind.i64.wrap (x1 + 1))) else (z1 = .ret 51)) else (z1 = .exit ())
def r05_all.f (a0 : TSpace) (a1 : List TWeight) (r : Int) : Prop :=
  ∃ t2_1 : Int, (r05_Space.f a0 t2_1) ∧ if t2_1 = 0 then (∃ o1 : Fin Unit Int, Loop (r05_all.b1 a0 a1) 0 o1 ∧ o1.on (fun _ => r = 0) (fun r_ => r = r_)) else (r = 50)
theorem r05_all.D {a0 a1 r} (h : r05_all.f a0 a1 r) : D Tryz.prog X (.callH 39 [.agg (TSpace.lit a0), .rows (a1.map TWeight.cells)] [] (.val (.int .i64 r)) []) := by
  unfold r05_all.f at h
  refine .enter 22 0 fn39 rfl rfl rfl <| .seq <| .room 0 <| .reg0 rfl (.op 0 rfl (bxP (s := 3) (cs := (TSpace.lit a0)) rfl ⟨rfl, by decide, rfl⟩ rfl) <| .op 0 rfl (asV rfl) <| .nil0) <| .seq <| .seq ?_
  obtain ⟨t2_1, g2_1, h⟩ := h
  refine .reg0 rfl (.o (ldG rfl sz25 ag25 rfl) <| .c rfl go45 rfl rfl rfl (r05_Space.D g2_1) <| .o (neI rfl rfl) <| .nil0) ?_
  by_cases c1 : t2_1 = 0
  · rw [if_pos c1] at h
    refine .condF rfl (nf c1) <| .skip <| .seq <| .seq <| .reg0 rfl (.op 0 rfl (asV rfl) <| .nil0) <| .block <| .keepL [0] [(1, .rows (a1.map TWeight.cells)), (2, .ptr 0 1 3 0 0), (5, i6 0)] [⟨3, [(TSpace.lit a0)], 0, none⟩] (by decide) (by decide) ⟨.free rfl rfl, .ptr rfl, .free rfl rfl, trivial⟩ ⟨⟨_, rfl, bcBox (all2_free rfl)⟩, trivial⟩ ?_
    obtain ⟨o1, hL1, h⟩ := h
    refine .loopB (r05_all.b1 a0 a1) (fun x1 => listEnv [(1, .rows (a1.map TWeight.cells)), (2, .ptr 0 1 3 0 0), (5, i6 x1)]) (fun x1 => [⟨3, [(TSpace.lit a0)], 0, none⟩]) (fun _ => listEnv []) (fun _ => []) hL1 (fun r_ => r = r_) ?_ ?_ ?_
    · rintro ⟨⟩ rfl
      try dsimp only [Fin.on] at h
      refine .seq <| .reg0 rfl (.op 0 rfl (asV rfl) <| .nil0) ?_
      replace h := h.symm
      subst h
      refine .kf [(4, i6 0)] rfl rfl ?_
      exact .ret rfl
    · rintro r_ rfl
      exact h
    · rintro x1 z1 h hn1 hx1 hr1
      dsimp only [r05_all.b1] at h
      refine .seq <| .seq <| .reg0 rfl (.op 0 rfl (mvV rfl) <| .op 0 rfl (mvR rfl) <| .op 0 rfl (lnR (l := a1) sl37 rfl) <| .op 0 rfl (ltI rfl rfl) <| .nil0) ?_
      by_cases c6 : x1 < (a1.length : Int)
      · rw [if_pos c6] at h
        refine .condT rfl (dt c6) <| .skip <| .seq <| .block <| .seq ?_
        obtain ⟨g13_3, h⟩ := h
        obtain ⟨t13_5, g13_5, h⟩ := h
        refine .reg1 (e1 := listEnv [(1, .rows (a1.map TWeight.cells)), (2, .ptr 0 1 3 0 0), (5, i6 x1), (21, bo (!t13_5))]) (H1 := [⟨3, [(TSpace.lit a0)], 0, none⟩]) rfl ?_ ?_
        · exact .drawM [(6, 21, bo (!t13_5)), (5, 20, bo t13_5), (4, 19, .agg (TWeight.lit (rdl a1 x1))), (3, 18, .cptr (TWeight.lit (rdl a1 x1)) 0), (2, 17, i6 x1), (1, 16, .rows (a1.map TWeight.cells)), (0, 15, .agg (TSpace.lit a0))] [] [[], [], [], [1, 2], [3, 1, 2], [0, 4, 3, 1, 2], [5, 0, 4, 3, 1, 2]] (by rfl) (by rfl) (by rfl) (by exact ⟨oP (fun _ => ldG rfl sz25 ag25 rfl) rfl, oP (fun _ => mvR rfl) rfl, oP (fun _ => mvV rfl) rfl, oP (fun _ => ixR (l := a1) (lit := TWeight.lit) sl37 rfl rfl TWeight.cells_lit g13_3.1 g13_3.2) rfl, oP (fun _ => ldCG rfl sz39 ag39 rfl) rfl, fun S hS hD hn => .oneI hS hD hn rfl rfl (callee_of rfl go60 rfl) (.pure rfl rfl (r05_is.D g13_5)) rfl rfl rfl, oP (fun _ => notB rfl) rfl, trivial⟩) _ (by exact ⟨.free rfl rfl, .ptr rfl, .free rfl rfl, .free rfl rfl, trivial⟩) (by rfl)
        by_cases c7 : t13_5 = true
        · rw [if_pos c7] at h
          refine .condF rfl (bnotF c7) <| .skip <| .inBlock <| .reg0 rfl (.op 0 rfl (mvV rfl) <| .op 0 rfl (addI rfl rfl) <| .op 0 rfl (asV rfl) <| .nil0) <| .keepL [0] [(1, .rows (a1.map TWeight.cells)), (2, .ptr 0 1 3 0 0), (5, i6 (IntKind.i64.wrap (x1 + 1)))] [⟨3, [(TSpace.lit a0)], 0, none⟩] (by decide) (by decide) ⟨.free rfl rfl, .ptr rfl, .free rfl rfl, trivial⟩ ⟨⟨_, rfl, bcBox (all2_free rfl)⟩, trivial⟩ ?_
          exact hn1 _ h
        · rw [if_neg c7] at h
          refine .condT rfl (bnotT (nb c7)) <| .seq <| .reg0 rfl (.op 0 rfl (asV rfl) <| .nil0) ?_
          have q3 := hr1 _ h
          replace q3 := q3.symm
          subst q3
          refine .kf [(4, i6 51)] rfl rfl ?_
          exact .ret rfl
      · rw [if_neg c6] at h
        refine .condF rfl (df c6) <| .exit rfl <| .keepL [] [] [] (by decide) (by decide) trivial trivial ?_
        exact hx1 _ h
  · rw [if_neg c1] at h
    refine .condT rfl (nt c1) <| .seq <| .reg0 rfl (.op 0 rfl (asV rfl) <| .nil0) ?_
    replace h := h.symm
    subst h
    refine .kf [(4, i6 50)] rfl rfl ?_
    exact .ret rfl
def r05_Extend.b1 (a0 : TSpace) (a1 : List TWeight) : (Bool × Int × Int × (List Int) × (List TCell) × (List TWeight) × Int) → Rnd ((Bool × Int × Int × (List Int) × (List TCell) × (List TWeight) × Int)) ((Bool × Int × Int × (List Int) × (List TCell) × (List TWeight))) (TWeight × Int) → Prop := fun (x1, x2, x3, x4, x5, x6, x7) z1 => if x7 < (a1.length : Int) then (((InR x7 a1.length)) ∧ ∃ t13_6 : TWeight, (r05_Then.f a0 (TWeight.mk x1 x2 (TFacts.mk x3 x4) x5 x6) (rdl a1 x7) t13_6) ∧ z1 = .next (t13_6.Zero, t13_6.Cost, t13_6.Facts.Gen, t13_6.Facts.Rows, t13_6.Cells, t13_6.Parts, (IntKind.i64.wrap (x7 + 1)))) else (z1 = .exit (x1, x2, x3, x4, x5, x6))
def r05_Extend.f (a0 : TSpace) (a1 : List TWeight) (r : TWeight × Int) : Prop :=
  ∃ t2_2 : Int, (r05_all.f a0 a1 t2_2) ∧ if t2_2 = 0 then (∃ t4_1 : TWeight, (r05_one.f a0 t4_1) ∧ ∃ o1 : Fin ((Bool × Int × Int × (List Int) × (List TCell) × (List TWeight))) (TWeight × Int), Loop (r05_Extend.b1 a0 a1) (t4_1.Zero, t4_1.Cost, t4_1.Facts.Gen, t4_1.Facts.Rows, t4_1.Cells, t4_1.Parts, 0) o1 ∧ o1.on (fun (x8, x9, x10, x11, x12, x13) => r = ((TWeight.mk x8 x9 (TFacts.mk x10 x11) x12 x13), 0)) (fun r_ => r = r_)) else (r = ((TWeight.mk false 0 (TFacts.mk 0 []) [] []), t2_2))
theorem r05_Extend.D {a0 a1 r} (h : r05_Extend.f a0 a1 r) : D Tryz.prog X (.callH 13 [.agg (TSpace.lit a0), .rows (a1.map TWeight.cells)] [] (.tuple [.agg (TWeight.lit r.1), .val (.int .i64 r.2)]) []) := by
  unfold r05_Extend.f at h
  refine .enter 32 0 fn13 rfl rfl rfl <| .seq <| .room 0 <| .room 0 <| .reg0 rfl (.op 0 rfl (bxP (s := 3) (cs := (TSpace.lit a0)) rfl ⟨rfl, by decide, rfl⟩ rfl) <| .op 1 rfl (alP (s := 6) ze39 ⟨rfl, by decide, rfl⟩ rfl) <| .op 0 rfl (asV rfl) <| .nil0) <| .seq ?_
  obtain ⟨t2_2, g2_2, h⟩ := h
  refine .reg0 rfl (.o (ldG rfl sz25 ag25 rfl) <| .o (mvR rfl) <| .c rfl go39 rfl rfl rfl (r05_all.D g2_2) <| .a rfl <| .nil0) <| .seq <| .seq <| .reg0 rfl (.op 0 rfl (mvV rfl) <| .op 0 rfl (neI rfl rfl) <| .nil0) ?_
  by_cases c1 : t2_2 = 0
  · rw [if_pos c1] at h
    refine .condF rfl (nf c1) <| .skip <| .seq ?_
    obtain ⟨t4_1, g4_1, h⟩ := h
    refine .room 0 <| .reg0 rfl (.op 0 rfl (ldG rfl sz25 ag25 rfl) <| .callI rfl (callee_of rfl go40 rfl) (.pure rfl rfl (r05_one.D g4_1)) <| .op 2 rfl (alP (s := 6) ze39 ⟨rfl, by decide, rfl⟩ rfl) <| .op 0 rfl (stB (cs0 := GL_c0) (cs := (TWeight.lit t4_1)) (cs1 := (TWeight.lit t4_1)) rfl rfl sz39 rfl ⟨Nat.le_of_ble_eq_true rfl, rfl⟩ rfl) <| .nil0) <| .seq <| .seq <| .reg0 rfl (.op 0 rfl (asV rfl) <| .nil0) ?_
    refine .block <| .keepL [0, 1, 2] [(1, .rows (a1.map TWeight.cells)), (2, .ptr 0 1 3 0 0), (4, .ptr 1 1 6 0 0), (7, .ptr 2 1 6 0 0), (8, i6 0)] [⟨3, [(TSpace.lit a0)], 0, none⟩, ⟨6, [GL_c0], 0, none⟩, ⟨6, [(TWeight.lit t4_1)], 0, none⟩] (by decide) (by decide) ⟨.free rfl rfl, .ptr rfl, .ptr rfl, .ptr rfl, .free rfl rfl, trivial⟩ ⟨⟨_, rfl, bcBox (all2_free rfl)⟩, ⟨_, rfl, bcBox (all2_free rfl)⟩, ⟨_, rfl, bcBox (all2_free rfl)⟩, trivial⟩ ?_
    obtain ⟨o1, hL1, h⟩ := h
    refine .loopB (r05_Extend.b1 a0 a1) (fun (x1, x2, x3, x4, x5, x6, x7) => listEnv [(1, .rows (a1.map TWeight.cells)), (2, .ptr 0 1 3 0 0), (4, .ptr 1 1 6 0 0), (7, .ptr 2 1 6 0 0), (8, i6 x7)]) (fun (x1, x2, x3, x4, x5, x6, x7) => [⟨3, [(TSpace.lit a0)], 0, none⟩, ⟨6, [GL_c0], 0, none⟩, ⟨6, [[bo x1, i6 x2, u6 x3, .rows (x4.map (cInt .u64)), .rows (x5.map TCell.cells), .rows (x6.map TWeight.cells)]], 0, none⟩]) (fun (x8, x9, x10, x11, x12, x13) => listEnv [(4, .ptr 0 1 6 0 0), (7, .ptr 1 1 6 0 0)]) (fun (x8, x9, x10, x11, x12, x13) => [⟨6, [GL_c0], 0, none⟩, ⟨6, [[bo x8, i6 x9, u6 x10, .rows (x11.map (cInt .u64)), .rows (x12.map TCell.cells), .rows (x13.map TWeight.cells)]], 0, none⟩]) hL1 (fun r_ => r = r_) ?_ ?_ ?_
    · rintro ⟨x8, x9, x10, x11, x12, x13⟩ rfl
      try dsimp only [Fin.on] at h
      refine .seq <| .reg0 rfl (.op 0 rfl (ldG rfl sz39 ag39 rfl) <| .op 0 rfl (stB (cs0 := GL_c0) (cs := [bo x8, i6 x9, u6 x10, .rows (x11.map (cInt .u64)), .rows (x12.map TCell.cells), .rows (x13.map TWeight.cells)]) (cs1 := [bo x8, i6 x9, u6 x10, .rows (x11.map (cInt .u64)), .rows (x12.map TCell.cells), .rows (x13.map TWeight.cells)]) rfl rfl sz39 rfl ⟨Nat.le_of_ble_eq_true rfl, rfl⟩ rfl) <| .op 0 rfl (asV rfl) <| .nil0) ?_
      replace h := h.symm
      subst h
      refine .k [(4, .cptr [bo x8, i6 x9, u6 x10, .rows (x11.map (cInt .u64)), .rows (x12.map TCell.cells), .rows (x13.map TWeight.cells)] 0), (5, i6 0)] ⟨cFixP rfl rfl (.cons (.free rfl rfl) <| .cons (.free rfl rfl) <| .cons (.free rfl rfl) <| .cons (.free rfl rfl) <| .cons (.free rfl rfl) <| .cons (.free rfl rfl) <| .nil), .free rfl rfl, trivial⟩ ?_
      exact .ret rfl
    · rintro r_ rfl
      exact h
    · rintro ⟨x1, x2, x3, x4, x5, x6, x7⟩ z1 h hn1 hx1 hr1
      dsimp only [r05_Extend.b1] at h
      refine .seq <| .seq <| .reg0 rfl (.op 0 rfl (mvV rfl) <| .op 0 rfl (mvR rfl) <| .op 0 rfl (lnR (l := a1) sl37 rfl) <| .op 0 rfl (ltI rfl rfl) <| .nil0) ?_
      by_cases c4 : x7 < (a1.length : Int)
      · rw [if_pos c4] at h
        refine .condT rfl (dt c4) <| .skip <| .seq <| .block ?_
        obtain ⟨g13_4, h⟩ := h
        obtain ⟨t13_6, g13_6, h⟩ := h
        refine .reg1 (e1 := listEnv [(1, .rows (a1.map TWeight.cells)), (2, .ptr 0 1 3 0 0), (4, .ptr 1 1 6 0 0), (7, .ptr 2 1 6 0 0), (8, i6 x7)]) (H1 := [⟨3, [(TSpace.lit a0)], 0, none⟩, ⟨6, [GL_c0], 0, none⟩, ⟨6, [(TWeight.lit t13_6)], 0, none⟩]) rfl ?_ ?_
        · exact .drawM [(6, 30, .agg (TWeight.lit t13_6)), (5, 29, .agg (TWeight.lit (rdl a1 x7))), (4, 28, .cptr (TWeight.lit (rdl a1 x7)) 0), (3, 27, i6 x7), (2, 26, .rows (a1.map TWeight.cells)), (1, 25, .agg [bo x1, i6 x2, u6 x3, .rows (x4.map (cInt .u64)), .rows (x5.map TCell.cells), .rows (x6.map TWeight.cells)]), (0, 24, .agg (TSpace.lit a0))] [(7, 2, ⟨6, [(TWeight.lit t13_6)], 0, none⟩)] [[], [], [], [], [2, 3], [4, 2, 3], [0, 1, 5, 4, 2, 3], [6, 0, 1, 5, 4, 2, 3]] (by rfl) (by rfl) (by rfl) (by exact ⟨oP (fun _ => ldG rfl sz25 ag25 rfl) rfl, oP (fun _ => ldG rfl sz39 ag39 rfl) rfl, oP (fun _ => mvR rfl) rfl, oP (fun _ => mvV rfl) rfl, oP (fun _ => ixR (l := a1) (lit := TWeight.lit) sl37 rfl rfl TWeight.cells_lit g13_4.1 g13_4.2) rfl, oP (fun _ => ldCG rfl sz39 ag39 rfl) rfl, fun S hS hD hn => .oneI hS hD hn rfl rfl (callee_of rfl go35 rfl) (.pure rfl rfl (r05_Then.D g13_6)) rfl rfl rfl, fun S hS hD hn => .one0 0 rfl rfl (stB (cs0 := [bo x1, i6 x2, u6 x3, .rows (x4.map (cInt .u64)), .rows (x5.map TCell.cells), .rows (x6.map TWeight.cells)]) (cs := (TWeight.lit t13_6)) (cs1 := (TWeight.lit t13_6)) rfl rfl sz39 rfl ⟨Nat.le_of_ble_eq_true rfl, rfl⟩ rfl) (drawE_other _ _ _ _ rfl) rfl, trivial⟩) _ (by exact ⟨.free rfl rfl, .ptr rfl, .ptr rfl, .ptr rfl, .free rfl rfl, trivial⟩) (by rfl)
        refine .inBlock <| .reg0 rfl (.op 0 rfl (mvV rfl) <| .op 0 rfl (addI rfl rfl) <| .op 0 rfl (asV rfl) <| .nil0) <| .keepL [0, 1, 2] [(1, .rows (a1.map TWeight.cells)), (2, .ptr 0 1 3 0 0), (4, .ptr 1 1 6 0 0), (7, .ptr 2 1 6 0 0), (8, i6 (IntKind.i64.wrap (x7 + 1)))] [⟨3, [(TSpace.lit a0)], 0, none⟩, ⟨6, [GL_c0], 0, none⟩, ⟨6, [(TWeight.lit t13_6)], 0, none⟩] (by decide) (by decide) ⟨.free rfl rfl, .ptr rfl, .ptr rfl, .ptr rfl, .free rfl rfl, trivial⟩ ⟨⟨_, rfl, bcBox (all2_free rfl)⟩, ⟨_, rfl, bcBox (all2_free rfl)⟩, ⟨_, rfl, bcBox (all2_free rfl)⟩, trivial⟩ ?_
        exact hn1 _ h
      · rw [if_neg c4] at h
        refine .condF rfl (df c4) <| .exit rfl <| .keepL [1, 2] [(4, .ptr 0 1 6 0 0), (7, .ptr 1 1 6 0 0)] [⟨6, [GL_c0], 0, none⟩, ⟨6, [[bo x1, i6 x2, u6 x3, .rows (x4.map (cInt .u64)), .rows (x5.map TCell.cells), .rows (x6.map TWeight.cells)]], 0, none⟩] (by decide) (by decide) ⟨.ptr rfl, .ptr rfl, trivial⟩ ⟨⟨_, rfl, bcBox (all2_free rfl)⟩, ⟨_, rfl, bcBox (all2_free rfl)⟩, trivial⟩ ?_
        exact hx1 _ h
  · rw [if_neg c1] at h
    refine .condT rfl (nt c1) <| .seq <| .reg0 rfl (.op 0 rfl (bldS (cs := GL_c0) ze39 pl39 rfl rfl) <| .op 0 rfl (mvV rfl) <| .op 0 rfl (stB (cs0 := GL_c0) (cs := GL_c0) (cs1 := GL_c0) rfl rfl sz39 rfl ⟨Nat.le_of_ble_eq_true rfl, rfl⟩ rfl) <| .op 0 rfl (asV rfl) <| .nil0) ?_
    replace h := h.symm
    subst h
    refine .k [(4, .cptr [bo false, i6 0, u6 0, .rows (([] : List Int).map (cInt .u64)), .rows (([] : List TCell).map TCell.cells), .rows (([] : List TWeight).map TWeight.cells)] 0), (5, i6 t2_2)] ⟨cFixP rfl rfl (.cons (.free rfl rfl) <| .cons (.free rfl rfl) <| .cons (.free rfl rfl) <| .cons (.nil) <| .cons (.nil) <| .cons (.nil) <| .nil), .free rfl rfl, trivial⟩ ?_
    exact .ret rfl
end Go.RM.Tryz
