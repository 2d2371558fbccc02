/- GJ, for the statement WeightMakes: what it needs, no more. -/
import Derived.Test.YthjbpjpcddegfaaGreatDoorZWeightMakesGI
set_option linter.unusedVariables false
set_option maxRecDepth 8000
set_option maxHeartbeats 4000000
namespace Go.RM.Tryz
open Go.RM Go.Proofs
def l05_WeightMakes.b1 (a0 : TSpace) (t2_1 : (List TWeight)) : Int → Rnd Int Unit Bool → Prop := fun x1 z1 => if x1 < (t2_1.length : Int) then (((InR (IntKind.i64.wrap (x1 - 1)) t2_1.length)) ∧ ((InR x1 t2_1.length)) ∧ ∃ t24_10 : Bool × Int, (weight_Below.f a0 (rdl t2_1 (IntKind.i64.wrap (x1 - 1))) (rdl t2_1 x1) t24_10) ∧ ((InR (IntKind.i64.wrap (x1 - 1)) t2_1.length)) ∧ ((InR x1 t2_1.length)) ∧ ∃ t25_10 : Bool × Int, (r05_Below.f a0 (rdl t2_1 (IntKind.i64.wrap (x1 - 1))) (rdl t2_1 x1) t25_10) ∧ if ((!(t24_10.1 == t25_10.1)) || (t24_10.2 != t25_10.2)) = true then (z1 = .ret false) else (z1 = .next (IntKind.i64.wrap (x1 + 1)))) else (z1 = .exit ())
def l05_WeightMakes.f (a0 : TSpace) (a1 : List TWeight) (r : Bool) : Prop :=
  ∃ t2_1 : (List TWeight), (l05_few.f a1 t2_1) ∧ ∃ t3_1 : Bool, (l05_smallSpace.f a0 0 t3_1) ∧ if t3_1 = true then (∃ t4_2 : TWeight × Int, (weight_Combine.f a0 t2_1 t4_2) ∧ ∃ t5_2 : TWeight × Int, (r05_Combine.f a0 t2_1 t5_2) ∧ ∃ t6_2 : TWeight × Int, (weight_Extend.f a0 t2_1 t6_2) ∧ ∃ t7_2 : TWeight × Int, (r05_Extend.f a0 t2_1 t7_2) ∧ ∃ t8_2 : Bool, (r05_Same.f t4_2.1 t5_2.1 t8_2) ∧ ∃ t8_12 : Bool, ((t8_2 = true) → (t4_2.2 = t5_2.2) → r05_Same.f t6_2.1 t7_2.1 t8_12) ∧ if ((!t8_2) || ((!(t4_2.2 == t5_2.2)) || ((!t8_12) || (t6_2.2 != t7_2.2)))) = true then (r = false) else (∃ o1 : Fin Unit Bool, Loop (l05_WeightMakes.b1 a0 t2_1) 1 o1 ∧ o1.on (fun _ => ∃ t29_0 : Bool, (l05_alive.f t29_0) ∧ r = t29_0) (fun r_ => r = r_))) else (∃ t30_0 : Bool, (l05_alive.f t30_0) ∧ r = t30_0)
abbrev GJ_A0 : List (List Nat) := [[], [], [], [2], [1, 3, 2], [4, 1, 3, 2], [], [], [6, 7], [8, 6, 7], [0, 5, 4, 1, 3, 2, 9, 8, 6, 7], [10, 0, 5, 4, 1, 3, 2, 9, 8, 6, 7], [11, 10, 0, 5, 4, 1, 3, 2, 9, 8, 6, 7], [11, 10, 0, 5, 4, 1, 3, 2, 9, 8, 6, 7], [12, 11, 10, 0, 5, 4, 1, 3, 2, 9, 8, 6, 7], [13, 11, 10, 0, 5, 4, 1, 3, 2, 9, 8, 6, 7, 14, 12]]
abbrev GJ_c0 : List PV := [bo false, i6 0, u6 0, nul, nul, nul]
theorem l05_WeightMakes.D {a0 a1 r} (h : l05_WeightMakes.f a0 a1 r) : D Tryz.prog X (.callH 4 [.agg (TSpace.lit a0), .rows (a1.map TWeight.cells)] [] (.val (.bool r)) []) := by
  unfold l05_WeightMakes.f at h
  refine .enter 111 0 fn4 rfl rfl rfl <| .seq <| .room 0 <| .reg0 rfl (.op 0 rfl (bxP (s := 3) (cs := (TSpace.lit a0)) rfl ⟨rfl, by decide, rfl⟩ rfl) <| .op 0 rfl (asV rfl) <| .nil0) <| .seq ?_
  obtain ⟨t2_1, g2_1, h⟩ := h
  refine .reg0 rfl (.o (mvR rfl) <| .c rfl go18 rfl rfl rfl (l05_few.D g2_1) <| .o (asR rfl) <| .nil0) <| .seq <| .seq ?_
  obtain ⟨t3_1, g3_1, h⟩ := h
  refine .reg0 rfl (.o (ldG rfl sz25 ag25 rfl) <| .c rfl go9 rfl rfl rfl (l05_smallSpace.D g3_1) <| .o (notB rfl) <| .nil0) ?_
  by_cases c1 : t3_1 = true
  · rw [if_pos c1] at h
    refine .condF rfl (bnotF c1) <| .skip <| .seq ?_
    obtain ⟨t4_2, g4_2, h⟩ := h
    refine .room 0 <| .reg0 rfl (.op 0 rfl (ldG rfl sz25 ag25 rfl) <| .op 0 rfl (mvR rfl) <| .callI rfl (callee_of rfl go19 rfl) (.pure rfl rfl (weight_Combine.D g4_2)) <| .op 0 rfl (mvT rfl) <| .op 0 rfl (exT rfl rfl) <| .op 0 rfl (exT rfl rfl) <| .op 1 rfl (alP (s := 6) ze33 ⟨rfl, by decide, rfl⟩ rfl) <| .op 0 rfl (stB (cs0 := GJ_c0) (cs := (TWeight.lit t4_2.1)) (cs1 := (TWeight.lit t4_2.1)) rfl rfl sz33 rfl ⟨Nat.le_of_ble_eq_true rfl, rfl⟩ rfl) <| .op 0 rfl (asV rfl) <| .nil0) ?_
    refine .seq ?_
    obtain ⟨t5_2, g5_2, h⟩ := h
    refine .room 0 <| .reg0 rfl (.op 0 rfl (ldG rfl sz25 ag25 rfl) <| .op 0 rfl (mvR rfl) <| .callI rfl (callee_of rfl go20 rfl) (.pure rfl rfl (r05_Combine.D g5_2)) <| .op 0 rfl (mvT rfl) <| .op 0 rfl (exT rfl rfl) <| .op 0 rfl (exT rfl rfl) <| .op 2 rfl (alP (s := 6) ze33 ⟨rfl, by decide, rfl⟩ rfl) <| .op 0 rfl (stB (cs0 := GJ_c0) (cs := (TWeight.lit t5_2.1)) (cs1 := (TWeight.lit t5_2.1)) rfl rfl sz33 rfl ⟨Nat.le_of_ble_eq_true rfl, rfl⟩ rfl) <| .op 0 rfl (asV rfl) <| .nil0) ?_
    refine .seq ?_
    obtain ⟨t6_2, g6_2, h⟩ := h
    refine .room 0 <| .reg0 (e1 := listEnv [(1, .rows (t2_1.map TWeight.cells)), (2, .ptr 0 1 3 0 0), (5, .ptr 1 1 6 0 0), (6, i6 t4_2.2), (7, .ptr 2 1 6 0 0), (8, i6 t5_2.2), (9, .ptr 3 1 6 0 0), (10, i6 t6_2.2)]) (H1 := [⟨3, [(TSpace.lit a0)], 0, none⟩, ⟨6, [(TWeight.lit t4_2.1)], 0, none⟩, ⟨6, [(TWeight.lit t5_2.1)], 0, none⟩, ⟨6, [(TWeight.lit t6_2.1)], 0, none⟩]) rfl (.op 0 rfl (ldG rfl sz25 ag25 rfl) <| .op 0 rfl (mvR rfl) <| .callI rfl (callee_of rfl go21 rfl) (.pure rfl rfl (weight_Extend.D g6_2)) <| .op 0 rfl (mvT rfl) <| .op 0 rfl (exT rfl rfl) <| .op 0 rfl (exT rfl rfl) <| .op 3 rfl (alP (s := 6) ze33 ⟨rfl, by decide, rfl⟩ rfl) <| .op 0 rfl (stB (cs0 := GJ_c0) (cs := (TWeight.lit t6_2.1)) (cs1 := (TWeight.lit t6_2.1)) rfl rfl sz33 rfl ⟨Nat.le_of_ble_eq_true rfl, rfl⟩ rfl) <| .op 0 rfl (asV rfl) <| .nilL _ ⟨.free rfl rfl, .ptr rfl, .ptr rfl, .free rfl rfl, .ptr rfl, .free rfl rfl, .ptr rfl, .free rfl rfl, trivial⟩) ?_
    refine .seq ?_
    obtain ⟨t7_2, g7_2, h⟩ := h
    refine .room 0 <| .reg0 rfl (.op 0 rfl (ldG rfl sz25 ag25 rfl) <| .op 0 rfl (mvR rfl) <| .callI rfl (callee_of rfl go22 rfl) (.pure rfl rfl (r05_Extend.D g7_2)) <| .op 0 rfl (mvT rfl) <| .op 0 rfl (exT rfl rfl) <| .op 0 rfl (exT rfl rfl) <| .op 4 rfl (alP (s := 6) ze33 ⟨rfl, by decide, rfl⟩ rfl) <| .op 0 rfl (stB (cs0 := GJ_c0) (cs := (TWeight.lit t7_2.1)) (cs1 := (TWeight.lit t7_2.1)) rfl rfl sz33 rfl ⟨Nat.le_of_ble_eq_true rfl, rfl⟩ rfl) <| .op 0 rfl (asV rfl) <| .nil0) ?_
    refine .seq <| .seq ?_
    obtain ⟨t8_2, g8_2, h⟩ := h
    obtain ⟨t8_12, g8_12, h⟩ := h
    refine .reg0 (e1 := listEnv [(1, .rows (t2_1.map TWeight.cells)), (2, .ptr 0 1 3 0 0), (67, bo ((!t8_2) || ((!(t4_2.2 == t5_2.2)) || ((!t8_12) || (t6_2.2 != t7_2.2)))))]) (H1 := [⟨3, [(TSpace.lit a0)], 0, none⟩, ⟨6, [(TWeight.lit t4_2.1)], 0, none⟩, ⟨6, [(TWeight.lit t5_2.1)], 0, none⟩, ⟨6, [(TWeight.lit t6_2.1)], 0, none⟩, ⟨6, [(TWeight.lit t7_2.1)], 0, none⟩]) rfl ?_ ?_
    · refine .o (ldG rfl sz33 ag33 rfl) <| .o (ldG rfl sz33 ag33 rfl) <| .c rfl go15 rfl rfl rfl (r05_Same.D g8_2) <| .o (notB rfl) <| .m rfl <| ?_
      by_cases c2 : t8_2 = true
      · refine .g rfl (bnotF c2) (mvV rfl) <| .g rfl (bnotF c2) (mvV rfl) <| .g rfl (bnotF c2) (neI rfl rfl) <| .o (pkFV rfl (bnotF c2) rfl) <| .m rfl <| ?_
        by_cases c3 : t4_2.2 = t5_2.2
        · refine .g rfl (nf c3) (ldG rfl sz33 ag33 rfl) <| .g rfl (nf c3) (ldG rfl sz33 ag33 rfl) <| .callI (gT rfl rfl rfl (nf c3)) (callee_of rfl go15 rfl) (.pure rfl rfl (r05_Same.D (g8_12 c2 c3))) <| .g rfl (nf c3) (notB rfl) <| .o (pkFV rfl (nf c3) rfl) <| .m rfl <| ?_
          by_cases c4 : t8_12 = true
          · exact (.g rfl (bnotF c4) (mvV rfl) <| .g rfl (bnotF c4) (mvV rfl) <| .g rfl (bnotF c4) (neI rfl rfl) <| .o (pkFV rfl (bnotF c4) rfl) <| .nilL _ ⟨.free rfl rfl, .ptr rfl, cB rfl (mOrF (bnotF c2) (mOrF (bnotF (bt c3)) (mOrF (bnotF c4) rfl))), trivial⟩)
          · exact (.n rfl (bnotT (nb c4)) <| .n rfl (bnotT (nb c4)) <| .n rfl (bnotT (nb c4)) <| .o (pkTV rfl (bnotT (nb c4)) rfl) <| .nilL _ ⟨.free rfl rfl, .ptr rfl, cB rfl (mOrF (bnotF c2) (mOrF (bnotF (bt c3)) (mOrT (bnotT (nb c4))))), trivial⟩)
        · exact (.n rfl (nt c3) <| .n rfl (nt c3) <| .n rfl (nt c3) <| .n rfl (nt c3) <| .o (pkTV rfl (nt c3) rfl) <| .m rfl <| .n rfl rfl <| .n rfl rfl <| .n rfl rfl <| .o (pkTV rfl rfl rfl) <| .nilL _ ⟨.free rfl rfl, .ptr rfl, cB rfl (mOrF (bnotF c2) (mOrT (bnotT (bn c3)))), trivial⟩)
      · exact (.n rfl (bnotT (nb c2)) <| .n rfl (bnotT (nb c2)) <| .n rfl (bnotT (nb c2)) <| .o (pkTV rfl (bnotT (nb c2)) rfl) <| .m rfl <| .n rfl rfl <| .n rfl rfl <| .n rfl rfl <| .n rfl rfl <| .o (pkTV rfl rfl rfl) <| .m rfl <| .n rfl rfl <| .n rfl rfl <| .n rfl rfl <| .o (pkTV rfl rfl rfl) <| .nilL _ ⟨.free rfl rfl, .ptr rfl, cB rfl (mOrT (bnotT (nb c2))), trivial⟩)
    by_cases c5 : ((!t8_2) || ((!(t4_2.2 == t5_2.2)) || ((!t8_12) || (t6_2.2 != t7_2.2)))) = true
    · rw [if_pos c5] at h
      refine .condT rfl c5 <| .seq <| .reg0 rfl (.op 0 rfl (asV rfl) <| .nil0) ?_
      replace h := h.symm
      subst h
      refine .kf [(4, bo false)] rfl rfl ?_
      exact .ret rfl
    · rw [if_neg c5] at h
      refine .condF rfl (nb c5) <| .skip <| .seq <| .seq <| .reg0 rfl (.op 0 rfl (asV rfl) <| .nil0) <| .block <| .keepL [0] [(1, .rows (t2_1.map TWeight.cells)), (2, .ptr 0 1 3 0 0), (13, i6 1)] [⟨3, [(TSpace.lit a0)], 0, none⟩] (by decide) (by decide) ⟨.free rfl rfl, .ptr rfl, .free rfl rfl, trivial⟩ ⟨⟨_, rfl, bcBox (all2_free rfl)⟩, trivial⟩ ?_
      obtain ⟨o1, hL1, h⟩ := h
      refine .loopB (l05_WeightMakes.b1 a0 t2_1) (fun x1 => listEnv [(1, .rows (t2_1.map TWeight.cells)), (2, .ptr 0 1 3 0 0), (13, i6 x1)]) (fun x1 => [⟨3, [(TSpace.lit a0)], 0, none⟩]) (fun _ => listEnv []) (fun _ => []) hL1 (fun r_ => r = r_) ?_ ?_ ?_
      · rintro ⟨⟩ rfl
        try dsimp only [Fin.on] at h
        refine .seq ?_
        obtain ⟨t29_0, g29_0, h⟩ := h
        refine .reg0 rfl (.c rfl go12 rfl rfl rfl (l05_alive.D g29_0) <| .a rfl <| .nil0) ?_
        replace h := h.symm
        subst h
        refine .kf [(4, bo t29_0)] rfl rfl ?_
        exact .ret rfl
      · rintro r_ rfl
        exact h
      · rintro x1 z1 h hn1 hx1 hr1
        dsimp only [l05_WeightMakes.b1] at h
        refine .seq <| .seq <| .reg0 rfl (.op 0 rfl (mvV rfl) <| .op 0 rfl (mvR rfl) <| .op 0 rfl (lnR (l := t2_1) sl31 rfl) <| .op 0 rfl (ltI rfl rfl) <| .nil0) ?_
        by_cases c12 : x1 < (t2_1.length : Int)
        · rw [if_pos c12] at h
          refine .condT rfl (dt c12) <| .skip <| .seq <| .block <| .seq ?_
          obtain ⟨g24_4, h⟩ := h
          obtain ⟨g24_8, h⟩ := h
          obtain ⟨t24_10, g24_10, h⟩ := h
          refine .reg1 (e1 := listEnv [(1, .rows (t2_1.map TWeight.cells)), (2, .ptr 0 1 3 0 0), (13, i6 x1), (14, bo t24_10.1), (15, i6 t24_10.2)]) (H1 := [⟨3, [(TSpace.lit a0)], 0, none⟩]) rfl ?_ ?_
          · exact .drawM [(15, 15, i6 t24_10.2), (14, 14, bo t24_10.1), (13, 87, i6 t24_10.2), (12, 86, bo t24_10.1), (11, 74, .tuple [bo t24_10.1, i6 t24_10.2]), (10, 85, .tuple [bo t24_10.1, i6 t24_10.2]), (9, 84, .agg (TWeight.lit (rdl t2_1 x1))), (8, 83, .cptr (TWeight.lit (rdl t2_1 x1)) 0), (7, 82, i6 x1), (6, 81, .rows (t2_1.map TWeight.cells)), (5, 80, .agg (TWeight.lit (rdl t2_1 (IntKind.i64.wrap (x1 - 1))))), (4, 79, .cptr (TWeight.lit (rdl t2_1 (IntKind.i64.wrap (x1 - 1)))) 0), (3, 78, i6 (IntKind.i64.wrap (x1 - 1))), (2, 77, i6 x1), (1, 76, .rows (t2_1.map TWeight.cells)), (0, 75, .agg (TSpace.lit a0))] [] GJ_A0 (by rfl) (by rfl) (by rfl) (by exact ⟨oP (fun _ => ldG rfl sz25 ag25 rfl) rfl, oP (fun _ => mvR rfl) rfl, oP (fun _ => mvV rfl) rfl, oP (fun _ => subI rfl rfl) rfl, oP (fun _ => ixR (l := t2_1) (lit := TWeight.lit) sl31 rfl rfl TWeight.cells_lit g24_4.1 g24_4.2) rfl, oP (fun _ => ldCG rfl sz33 ag33 rfl) rfl, oP (fun _ => mvR rfl) rfl, oP (fun _ => mvV rfl) rfl, oP (fun _ => ixR (l := t2_1) (lit := TWeight.lit) sl31 rfl rfl TWeight.cells_lit g24_8.1 g24_8.2) rfl, oP (fun _ => ldCG rfl sz33 ag33 rfl) rfl, fun S hS hD hn => .oneI hS hD hn rfl rfl (callee_of rfl go23 rfl) (.pure rfl rfl (weight_Below.D g24_10)) rfl rfl rfl, oP (fun _ => mvT rfl) rfl, oP (fun _ => exT rfl rfl) rfl, oP (fun _ => exT rfl rfl) rfl, oP (fun _ => asV rfl) rfl, oP (fun _ => asV rfl) rfl, trivial⟩) _ (by exact ⟨.free rfl rfl, .ptr rfl, .free rfl rfl, .free rfl rfl, .free rfl rfl, trivial⟩) (by rfl)
          refine .seq ?_
          obtain ⟨g25_4, h⟩ := h
          obtain ⟨g25_8, h⟩ := h
          obtain ⟨t25_10, g25_10, h⟩ := h
          refine .reg1 (e1 := listEnv [(1, .rows (t2_1.map TWeight.cells)), (2, .ptr 0 1 3 0 0), (13, i6 x1), (14, bo t24_10.1), (15, i6 t24_10.2), (16, bo t25_10.1), (17, i6 t25_10.2)]) (H1 := [⟨3, [(TSpace.lit a0)], 0, none⟩]) rfl ?_ ?_
          · exact .drawM [(15, 17, i6 t25_10.2), (14, 16, bo t25_10.1), (13, 101, i6 t25_10.2), (12, 100, bo t25_10.1), (11, 88, .tuple [bo t25_10.1, i6 t25_10.2]), (10, 99, .tuple [bo t25_10.1, i6 t25_10.2]), (9, 98, .agg (TWeight.lit (rdl t2_1 x1))), (8, 97, .cptr (TWeight.lit (rdl t2_1 x1)) 0), (7, 96, i6 x1), (6, 95, .rows (t2_1.map TWeight.cells)), (5, 94, .agg (TWeight.lit (rdl t2_1 (IntKind.i64.wrap (x1 - 1))))), (4, 93, .cptr (TWeight.lit (rdl t2_1 (IntKind.i64.wrap (x1 - 1)))) 0), (3, 92, i6 (IntKind.i64.wrap (x1 - 1))), (2, 91, i6 x1), (1, 90, .rows (t2_1.map TWeight.cells)), (0, 89, .agg (TSpace.lit a0))] [] GJ_A0 (by rfl) (by rfl) (by rfl) (by exact ⟨oP (fun _ => ldG rfl sz25 ag25 rfl) rfl, oP (fun _ => mvR rfl) rfl, oP (fun _ => mvV rfl) rfl, oP (fun _ => subI rfl rfl) rfl, oP (fun _ => ixR (l := t2_1) (lit := TWeight.lit) sl31 rfl rfl TWeight.cells_lit g25_4.1 g25_4.2) rfl, oP (fun _ => ldCG rfl sz33 ag33 rfl) rfl, oP (fun _ => mvR rfl) rfl, oP (fun _ => mvV rfl) rfl, oP (fun _ => ixR (l := t2_1) (lit := TWeight.lit) sl31 rfl rfl TWeight.cells_lit g25_8.1 g25_8.2) rfl, oP (fun _ => ldCG rfl sz33 ag33 rfl) rfl, fun S hS hD hn => .oneI hS hD hn rfl rfl (callee_of rfl go24 rfl) (.pure rfl rfl (r05_Below.D g25_10)) rfl rfl rfl, oP (fun _ => mvT rfl) rfl, oP (fun _ => exT rfl rfl) rfl, oP (fun _ => exT rfl rfl) rfl, oP (fun _ => asV rfl) rfl, oP (fun _ => asV rfl) rfl, trivial⟩) _ (by exact ⟨.free rfl rfl, .ptr rfl, .free rfl rfl, .free rfl rfl, .free rfl rfl, .free rfl rfl, .free rfl rfl, trivial⟩) (by rfl)
          refine .seq ?_
          refine .reg0 (e1 := listEnv [(1, .rows (t2_1.map TWeight.cells)), (2, .ptr 0 1 3 0 0), (13, i6 x1), (109, bo ((!(t24_10.1 == t25_10.1)) || (t24_10.2 != t25_10.2)))]) (H1 := [⟨3, [(TSpace.lit a0)], 0, none⟩]) rfl ?_ ?_
          · refine .m rfl <| .m rfl <| .o (neB un4 rfl rfl) <| .m rfl <| ?_
            by_cases c13 : t24_10.1 = t25_10.1
            · exact (.g rfl (nf c13) (mvV rfl) <| .g rfl (nf c13) (mvV rfl) <| .g rfl (nf c13) (neI rfl rfl) <| .o (pkFV rfl (nf c13) rfl) <| .nilL _ ⟨.free rfl rfl, .ptr rfl, .free rfl rfl, cB rfl (mOrF (bnotF (bt c13)) rfl), trivial⟩)
            · exact (.n rfl (nt c13) <| .n rfl (nt c13) <| .n rfl (nt c13) <| .o (pkTV rfl (nt c13) rfl) <| .nilL _ ⟨.free rfl rfl, .ptr rfl, .free rfl rfl, cB rfl (mOrT (bnotT (bn c13))), trivial⟩)
          by_cases c14 : ((!(t24_10.1 == t25_10.1)) || (t24_10.2 != t25_10.2)) = true
          · rw [if_pos c14] at h
            refine .condT rfl c14 <| .seq <| .reg0 rfl (.op 0 rfl (asV rfl) <| .nil0) ?_
            have q3 := hr1 _ h
            replace q3 := q3.symm
            subst q3
            refine .kf [(4, bo false)] rfl rfl ?_
            exact .ret rfl
          · rw [if_neg c14] at h
            refine .condF rfl (nb c14) <| .skip <| .inBlock <| .reg0 rfl (.op 0 rfl (mvV rfl) <| .op 0 rfl (addI rfl rfl) <| .op 0 rfl (asV rfl) <| .nil0) <| .keepL [0] [(1, .rows (t2_1.map TWeight.cells)), (2, .ptr 0 1 3 0 0), (13, i6 (IntKind.i64.wrap (x1 + 1)))] [⟨3, [(TSpace.lit a0)], 0, none⟩] (by decide) (by decide) ⟨.free rfl rfl, .ptr rfl, .free rfl rfl, trivial⟩ ⟨⟨_, rfl, bcBox (all2_free rfl)⟩, trivial⟩ ?_
            exact hn1 _ h
        · rw [if_neg c12] at h
          refine .condF rfl (df c12) <| .exit rfl <| .keepL [] [] [] (by decide) (by decide) trivial trivial ?_
          exact hx1 _ h
  · rw [if_neg c1] at h
    refine .condT rfl (bnotT (nb c1)) <| .seq ?_
    obtain ⟨t30_0, g30_0, h⟩ := h
    refine .reg0 rfl (.c rfl go12 rfl rfl rfl (l05_alive.D g30_0) <| .a rfl <| .nil0) ?_
    replace h := h.symm
    subst h
    refine .kf [(4, bo t30_0)] rfl rfl ?_
    exact .ret rfl
end Go.RM.Tryz
