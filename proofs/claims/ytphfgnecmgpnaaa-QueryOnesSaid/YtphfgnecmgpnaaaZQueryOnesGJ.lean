/- GJ, for the statement QueryOnes: what it needs, no more. -/
import Derived.Test.YtphfgnecmgpnaaaZQueryOnesGI
set_option linter.unusedVariables false
set_option maxRecDepth 8000
set_option maxHeartbeats 4000000
namespace Go.RM.Try
open Go.RM Go.Proofs
variable {X : FuncId → List PV → Heap → PV → Heap → Prop}
def r05_Then.b1 (a0 : TSpace) (a1 : TWeight) (a2 : TWeight) : ((List TCell) × Int) → Rnd (((List TCell) × Int)) ((List TCell)) TWeight → Prop := fun (x2, x3) z1 => if x3 < a0.Dim then (((InR x3 a2.Cells.length)) ∧ ∃ t21_9 : TCell, (r05_behind.f a1.Cells (rdl a2.Cells x3) t21_9) ∧ ((Fits (x2.length + 1) 24)) ∧ z1 = .next ((x2 ++ [t21_9]), (IntKind.i64.wrap (x3 + 1)))) else (z1 = .exit x2)
def r05_Then.step (self57 : TSpace → TWeight → TWeight → TWeight → Prop) (a0 : TSpace) (a1 : TWeight) (a2 : TWeight) (r : TWeight) : Prop :=
  if (a1.Zero || a2.Zero) = true then (r = (TWeight.mk true 0 (TFacts.mk 0 []) [] [])) else (if a0.Tag = 2 then (r = (TWeight.mk false (if a0.Dim < (IntKind.i64.wrap (a1.Cost + a2.Cost)) then a0.Dim else (IntKind.i64.wrap (a1.Cost + a2.Cost))) (TFacts.mk 0 []) [] [])) else (if a0.Tag = 3 then (∃ t10_6 : TFacts × Int, (r03_Extend.f a0.Dim a1.Facts a2.Facts t10_6) ∧ r = (TWeight.mk false 0 t10_6.1 [] [])) else (if a0.Tag = 4 then (∃ o1 : Fin ((List TCell)) TWeight, Loop (r05_Then.b1 a0 a1 a2) ([], 0) o1 ∧ o1.on (fun x4 => r = (TWeight.mk false 0 (TFacts.mk 0 []) x4 [])) (fun r_ => r = r_)) else (if a0.Tag = 5 then (((InR 0 a0.Parts.length)) ∧ ((InR 0 a1.Parts.length)) ∧ ((InR 0 a2.Parts.length)) ∧ ∃ t25_12 : TWeight, (self57 (rdl a0.Parts 0) (rdl a1.Parts 0) (rdl a2.Parts 0) t25_12) ∧ ((InR 1 a0.Parts.length)) ∧ ((InR 1 a1.Parts.length)) ∧ ((InR 1 a2.Parts.length)) ∧ ∃ t25_25 : TWeight, (self57 (rdl a0.Parts 1) (rdl a1.Parts 1) (rdl a2.Parts 1) t25_25) ∧ r = (TWeight.mk false 0 (TFacts.mk 0 []) [] [t25_12, t25_25])) else (r = (TWeight.mk false 0 (TFacts.mk 0 []) [] []))))))
theorem r05_Then.stepD {self57 : TSpace → TWeight → TWeight → TWeight → Prop} {a0 : TSpace} {a1 : TWeight} {a2 : TWeight} (hs57 : ∀ z0_ z1_ z2_ r_, self57 z0_ z1_ z2_ r_ → D Try.prog X (.callH 57 [.agg (TSpace.lit z0_), .agg (TWeight.lit z1_), .agg (TWeight.lit z2_)] [] (.agg (TWeight.lit r_)) [])) {r : TWeight} (h : r05_Then.step self57 a0 a1 a2 r) : D Try.prog X (.callH 57 [.agg (TSpace.lit a0), .agg (TWeight.lit a1), .agg (TWeight.lit a2)] [] (.agg (TWeight.lit r)) []) := by
  unfold r05_Then.step at h
  refine .enter 95 0 fn57 rfl rfl rfl ?_
  refine .seq ?_
  refine .room 0 ?_
  refine .room 0 ?_
  refine .room 0 ?_
  refine .room 0 ?_
  refine .reg0 rfl (.op 0 rfl (bxP (s := 3) (cs := (TSpace.lit a0)) rfl ⟨rfl, by decide, rfl⟩ rfl) <| .op 1 rfl (bxP (s := 6) (cs := (TWeight.lit a1)) rfl ⟨rfl, by decide, rfl⟩ rfl) <| .op 2 rfl (bxP (s := 6) (cs := (TWeight.lit a2)) rfl ⟨rfl, by decide, rfl⟩ rfl) <| .op 3 rfl (alP (s := 6) ze48 ⟨rfl, by decide, rfl⟩ rfl) <| .nil0) ?_
  refine .seq ?_
  refine .seq ?_
  refine .reg0 (e1 := listEnv [(3, .ptr 0 1 3 0 0), (4, .ptr 1 1 6 0 0), (5, .ptr 2 1 6 0 0), (6, .ptr 3 1 6 0 0), (14, .val (.bool (a1.Zero || a2.Zero)))]) (H1 := [⟨3, [(TSpace.lit a0)], 0, none⟩, ⟨6, [(TWeight.lit a1)], 0, none⟩, ⟨6, [(TWeight.lit a2)], 0, none⟩, ⟨6, [[.val (.bool false), .val (.int .i64 0), .val (.int .u64 0), .val (.slice none 0 0), .val (.slice none 0 0), .val (.slice none 0 0)]], 0, none⟩]) rfl ?_ ?_
  · by_cases c1 : a1.Zero = true
    · exact (.op 0 rfl (faP fa48_0 rfl) <| .op 0 rfl (ldP rfl sz4 ag4 rfl) <| .op 0 rfl (mvV rfl) <| .no (gF rfl rfl rfl c1) <| .no (gF rfl rfl rfl c1) <| .op 0 rfl (pkTV rfl c1 rfl) <| .nilL _ ⟨.ptr rfl, .ptr rfl, .ptr rfl, .ptr rfl, cB rfl (mOrT c1), trivial⟩)
    · exact (.op 0 rfl (faP fa48_0 rfl) <| .op 0 rfl (ldP rfl sz4 ag4 rfl) <| .op 0 rfl (mvV rfl) <| .op 0 (gT rfl rfl rfl (Bool.eq_false_iff.mpr c1)) (faP fa48_0 rfl) <| .op 0 (gT rfl rfl rfl (Bool.eq_false_iff.mpr c1)) (ldP rfl sz4 ag4 rfl) <| .op 0 rfl (pkFV rfl (Bool.eq_false_iff.mpr c1) rfl) <| .nilL _ ⟨.ptr rfl, .ptr rfl, .ptr rfl, .ptr rfl, cB rfl (mOrF (Bool.eq_false_iff.mpr c1) rfl), trivial⟩)
  by_cases c2 : (a1.Zero || a2.Zero) = true
  · rw [if_pos c2] at h
    refine .condT rfl c2 ?_
    refine .seq ?_
    refine .reg0 rfl (.op 0 rfl (bldS (cs := [.val (.bool true), .val (.int .i64 0), .val (.int .u64 0), .val (.slice none 0 0), .val (.slice none 0 0), .val (.slice none 0 0)]) ze48 pl48 rfl rfl) <| .op 0 rfl (stB (cs0 := [.val (.bool false), .val (.int .i64 0), .val (.int .u64 0), .val (.slice none 0 0), .val (.slice none 0 0), .val (.slice none 0 0)]) (cs := [.val (.bool true), .val (.int .i64 0), .val (.int .u64 0), .val (.slice none 0 0), .val (.slice none 0 0), .val (.slice none 0 0)]) (cs1 := [.val (.bool true), .val (.int .i64 0), .val (.int .u64 0), .val (.slice none 0 0), .val (.slice none 0 0), .val (.slice none 0 0)]) rfl rfl sz48 rfl ⟨Nat.le_of_ble_eq_true rfl, rfl⟩ rfl) <| .nil0) ?_
    replace h := h.symm
    subst h
    refine .keepL [] [(6, .cptr [.val (.bool true), .val (.int .i64 0), .val (.int .u64 0), .rows (([] : List Int).map (cInt .u64)), .rows (([] : List TCell).map TCell.cells), .rows (([] : List TWeight).map TWeight.cells)] 0)] [] (by decide) (by decide) ⟨cFixP rfl rfl (.cons (.free rfl rfl) <| .cons (.free rfl rfl) <| .cons (.free rfl rfl) <| .cons (.nil) <| .cons (.nil) <| .cons (.nil) <| .nil), trivial⟩ trivial ?_
    exact .ret rfl
  · rw [if_neg c2] at h
    refine .condF rfl (Bool.eq_false_iff.mpr c2) ?_
    refine .skip ?_
    refine .seq ?_
    refine .room 0 ?_
    refine .reg0 rfl (.op 0 rfl (bldS (cs := [.val (.bool false), .val (.int .i64 0), .val (.int .u64 0), .val (.slice none 0 0), .val (.slice none 0 0), .val (.slice none 0 0)]) ze48 pl48 rfl rfl) <| .op 4 rfl (alP (s := 6) ze48 ⟨rfl, by decide, rfl⟩ rfl) <| .op 0 rfl (stB (cs0 := [.val (.bool false), .val (.int .i64 0), .val (.int .u64 0), .val (.slice none 0 0), .val (.slice none 0 0), .val (.slice none 0 0)]) (cs := [.val (.bool false), .val (.int .i64 0), .val (.int .u64 0), .val (.slice none 0 0), .val (.slice none 0 0), .val (.slice none 0 0)]) (cs1 := [.val (.bool false), .val (.int .i64 0), .val (.int .u64 0), .val (.slice none 0 0), .val (.slice none 0 0), .val (.slice none 0 0)]) rfl rfl sz48 rfl ⟨Nat.le_of_ble_eq_true rfl, rfl⟩ rfl) <| .nil0) ?_
    refine .seq ?_
    refine .seq ?_
    refine .reg0 rfl (.op 0 rfl (faP fa25_0 rfl) <| .op 0 rfl (ldP rfl sz22 ag22 rfl) <| .nil0) ?_
    refine .block ?_
    refine .seq ?_
    refine .reg0 rfl (.op 0 rfl (eqI rfl rfl) <| .op 0 rfl (asV rfl) <| .nil0) ?_
    by_cases c3 : a0.Tag = 2
    · rw [if_pos c3] at h
      refine .condT rfl (beq_iff_eq.mpr c3) ?_
      refine .reg0 rfl (.op 0 rfl (faP fa48_1 rfl) <| .op 0 rfl (ldP rfl sz3 ag3 rfl) <| .op 0 rfl (faP fa48_1 rfl) <| .op 0 rfl (ldP rfl sz3 ag3 rfl) <| .op 0 rfl (addI rfl rfl) <| .op 0 rfl (faP fa25_1 rfl) <| .op 0 rfl (ldP rfl sz3 ag3 rfl) <| .op 0 rfl (minI rfl rfl) <| .op 0 rfl (faP fa48_1 rfl) <| .op 0 rfl (stB (cs0 := [.val (.bool false), .val (.int .i64 0), .val (.int .u64 0), .val (.slice none 0 0), .val (.slice none 0 0), .val (.slice none 0 0)]) (cs := [.val (.int .i64 (if a0.Dim < (IntKind.i64.wrap (a1.Cost + a2.Cost)) then a0.Dim else (IntKind.i64.wrap (a1.Cost + a2.Cost))))]) (cs1 := [.val (.bool false), .val (.int .i64 (if a0.Dim < (IntKind.i64.wrap (a1.Cost + a2.Cost)) then a0.Dim else (IntKind.i64.wrap (a1.Cost + a2.Cost)))), .val (.int .u64 0), .val (.slice none 0 0), .val (.slice none 0 0), .val (.slice none 0 0)]) rfl rfl sz3 rfl ⟨Nat.le_of_ble_eq_true rfl, rfl⟩ rfl) <| .nil0) ?_
      refine .inBlock ?_
      refine .seq ?_
      refine .reg0 rfl (.op 0 rfl (ldG rfl sz48 ag48 rfl) <| .op 0 rfl (stB (cs0 := [.val (.bool false), .val (.int .i64 0), .val (.int .u64 0), .val (.slice none 0 0), .val (.slice none 0 0), .val (.slice none 0 0)]) (cs := [.val (.bool false), .val (.int .i64 (if a0.Dim < (IntKind.i64.wrap (a1.Cost + a2.Cost)) then a0.Dim else (IntKind.i64.wrap (a1.Cost + a2.Cost)))), .val (.int .u64 0), .val (.slice none 0 0), .val (.slice none 0 0), .val (.slice none 0 0)]) (cs1 := [.val (.bool false), .val (.int .i64 (if a0.Dim < (IntKind.i64.wrap (a1.Cost + a2.Cost)) then a0.Dim else (IntKind.i64.wrap (a1.Cost + a2.Cost)))), .val (.int .u64 0), .val (.slice none 0 0), .val (.slice none 0 0), .val (.slice none 0 0)]) rfl rfl sz48 rfl ⟨Nat.le_of_ble_eq_true rfl, rfl⟩ rfl) <| .nil0) ?_
      replace h := h.symm
      subst h
      refine .keepL [] [(6, .cptr [.val (.bool false), .val (.int .i64 (if a0.Dim < (IntKind.i64.wrap (a1.Cost + a2.Cost)) then a0.Dim else (IntKind.i64.wrap (a1.Cost + a2.Cost)))), .val (.int .u64 0), .rows (([] : List Int).map (cInt .u64)), .rows (([] : List TCell).map TCell.cells), .rows (([] : List TWeight).map TWeight.cells)] 0)] [] (by decide) (by decide) ⟨cFixP rfl rfl (.cons (.free rfl rfl) <| .cons (.free rfl rfl) <| .cons (.free rfl rfl) <| .cons (.nil) <| .cons (.nil) <| .cons (.nil) <| .nil), trivial⟩ trivial ?_
      exact .ret rfl
    · rw [if_neg c3] at h
      refine .condF rfl (beq_eq_false_iff_ne.mpr c3) ?_
      refine .seq ?_
      refine .reg0 rfl (.op 0 rfl (eqI rfl rfl) <| .op 0 rfl (asV rfl) <| .nil0) ?_
      by_cases c4 : a0.Tag = 3
      · rw [if_pos c4] at h
        refine .condT rfl (beq_iff_eq.mpr c4) ?_
        obtain ⟨t10_6, g10_6, h⟩ := h
        refine .reg0 rfl (.op 0 rfl (faP fa25_1 rfl) <| .op 0 rfl (ldP rfl sz3 ag3 rfl) <| .op 0 rfl (faP fa48_2 rfl) <| .op 0 rfl (ldG rfl sz44 ag44 rfl) <| .op 0 rfl (faP fa48_2 rfl) <| .op 0 rfl (ldG rfl sz44 ag44 rfl) <| .callI rfl (callee_of rfl go75 rfl) (.pure rfl rfl (r03_Extend.D g10_6)) <| .op 0 rfl (mvT rfl) <| .op 0 rfl (exT rfl rfl) <| .op 0 rfl (exT rfl rfl) <| .op 0 rfl (faP fa48_2 rfl) <| .op 0 rfl (stB (cs0 := [.val (.bool false), .val (.int .i64 0), .val (.int .u64 0), .val (.slice none 0 0), .val (.slice none 0 0), .val (.slice none 0 0)]) (cs := (TFacts.lit t10_6.1)) (cs1 := [.val (.bool false), .val (.int .i64 0), .val (.int .u64 t10_6.1.Gen), .rows (t10_6.1.Rows.map (cInt .u64)), .val (.slice none 0 0), .val (.slice none 0 0)]) rfl rfl sz44 rfl ⟨Nat.le_of_ble_eq_true rfl, rfl⟩ rfl) <| .nil0) ?_
        refine .inBlock ?_
        refine .seq ?_
        refine .reg0 rfl (.op 0 rfl (ldG rfl sz48 ag48 rfl) <| .op 0 rfl (stB (cs0 := [.val (.bool false), .val (.int .i64 0), .val (.int .u64 0), .val (.slice none 0 0), .val (.slice none 0 0), .val (.slice none 0 0)]) (cs := [.val (.bool false), .val (.int .i64 0), .val (.int .u64 t10_6.1.Gen), .rows (t10_6.1.Rows.map (cInt .u64)), .val (.slice none 0 0), .val (.slice none 0 0)]) (cs1 := [.val (.bool false), .val (.int .i64 0), .val (.int .u64 t10_6.1.Gen), .rows (t10_6.1.Rows.map (cInt .u64)), .val (.slice none 0 0), .val (.slice none 0 0)]) rfl rfl sz48 rfl ⟨Nat.le_of_ble_eq_true rfl, rfl⟩ rfl) <| .nil0) ?_
        replace h := h.symm
        subst h
        refine .keepL [] [(6, .cptr [.val (.bool false), .val (.int .i64 0), .val (.int .u64 t10_6.1.Gen), .rows (t10_6.1.Rows.map (cInt .u64)), .rows (([] : List TCell).map TCell.cells), .rows (([] : List TWeight).map TWeight.cells)] 0)] [] (by decide) (by decide) ⟨cFixP rfl rfl (.cons (.free rfl rfl) <| .cons (.free rfl rfl) <| .cons (.free rfl rfl) <| .cons (.free rfl rfl) <| .cons (.nil) <| .cons (.nil) <| .nil), trivial⟩ trivial ?_
        exact .ret rfl
      · rw [if_neg c4] at h
        refine .condF rfl (beq_eq_false_iff_ne.mpr c4) ?_
        refine .seq ?_
        refine .reg0 rfl (.op 0 rfl (eqI rfl rfl) <| .op 0 rfl (asV rfl) <| .nil0) ?_
        by_cases c5 : a0.Tag = 4
        · rw [if_pos c5] at h
          refine .condT rfl (beq_iff_eq.mpr c5) ?_
          refine .seq ?_
          refine .reg0 rfl (.op 0 rfl (asV rfl) <| .nil0) ?_
          refine .block ?_
          refine .room 3 ?_
          refine .keepL [0, 1, 2, 3, 4, 5] [(3, .ptr 0 1 3 0 0), (4, .ptr 1 1 6 0 0), (5, .ptr 2 1 6 0 0), (6, .ptr 3 1 6 0 0), (7, .ptr 4 1 6 0 0), (8, .val (.int .i64 0))] [⟨3, [(TSpace.lit a0)], 0, none⟩, ⟨6, [(TWeight.lit a1)], 0, none⟩, ⟨6, [(TWeight.lit a2)], 0, none⟩, ⟨6, [[.val (.bool false), .val (.int .i64 0), .val (.int .u64 0), .val (.slice none 0 0), .val (.slice none 0 0), .val (.slice none 0 0)]], 0, none⟩, ⟨6, [[.val (.bool false), .val (.int .i64 0), .val (.int .u64 0), .val (.slice none 0 0), .own 5 0, .val (.slice none 0 0)]], 0, none⟩, ⟨3, [].map TCell.cells, 0, none⟩] (by decide) (by decide) ⟨.ptr rfl, .ptr rfl, .ptr rfl, .ptr rfl, .ptr rfl, .free rfl rfl, trivial⟩ ⟨⟨_, rfl, bcBox (all2_free rfl)⟩, ⟨_, rfl, bcBox (all2_free rfl)⟩, ⟨_, rfl, bcBox (all2_free rfl)⟩, ⟨_, rfl, bcBox (all2_free rfl)⟩, ⟨_, rfl, bcBox (.cons (.free rfl rfl) <| .cons (.free rfl rfl) <| .cons (.free rfl rfl) <| .cons (.free rfl rfl) <| .cons (.nilOwn) <| .cons (.free rfl rfl) <| .nil)⟩, ⟨_, rfl, (bcRow (l := []) sl45 (Nat.le_refl _) rfl)⟩, trivial⟩ ?_
          obtain ⟨o1, hL1, h⟩ := h
          refine .loopB (r05_Then.b1 a0 a1 a2) (fun (x2, x3) => listEnv [(3, .ptr 0 1 3 0 0), (4, .ptr 1 1 6 0 0), (5, .ptr 2 1 6 0 0), (6, .ptr 3 1 6 0 0), (7, .ptr 4 1 6 0 0), (8, .val (.int .i64 x3))]) (fun (x2, x3) => [⟨3, [(TSpace.lit a0)], 0, none⟩, ⟨6, [(TWeight.lit a1)], 0, none⟩, ⟨6, [(TWeight.lit a2)], 0, none⟩, ⟨6, [[.val (.bool false), .val (.int .i64 0), .val (.int .u64 0), .val (.slice none 0 0), .val (.slice none 0 0), .val (.slice none 0 0)]], 0, none⟩, ⟨6, [[.val (.bool false), .val (.int .i64 0), .val (.int .u64 0), .val (.slice none 0 0), .own 5 x2.length, .val (.slice none 0 0)]], 0, none⟩, ⟨3, x2.map TCell.cells, 0, none⟩]) (fun x4 => listEnv [(6, .ptr 0 1 6 0 0), (7, .ptr 1 1 6 0 0)]) (fun x4 => [⟨6, [[.val (.bool false), .val (.int .i64 0), .val (.int .u64 0), .val (.slice none 0 0), .val (.slice none 0 0), .val (.slice none 0 0)]], 0, none⟩, ⟨6, [[.val (.bool false), .val (.int .i64 0), .val (.int .u64 0), .val (.slice none 0 0), .own 2 x4.length, .val (.slice none 0 0)]], 0, none⟩, ⟨3, x4.map TCell.cells, 0, none⟩]) hL1 (fun r_ => r = r_) ?_ ?_ ?_
          · rintro x4 rfl
            try dsimp only [Fin.on] at h
            refine .inBlock ?_
            refine .seq ?_
            refine .reg0 rfl (.op 0 rfl (ldG rfl sz48 ag48 rfl) <| .op 0 rfl (stB (cs0 := [.val (.bool false), .val (.int .i64 0), .val (.int .u64 0), .val (.slice none 0 0), .val (.slice none 0 0), .val (.slice none 0 0)]) (cs := [.val (.bool false), .val (.int .i64 0), .val (.int .u64 0), .val (.slice none 0 0), .own 2 x4.length, .val (.slice none 0 0)]) (cs1 := [.val (.bool false), .val (.int .i64 0), .val (.int .u64 0), .val (.slice none 0 0), .own 2 x4.length, .val (.slice none 0 0)]) rfl rfl sz48 rfl ⟨Nat.le_of_ble_eq_true rfl, rfl⟩ rfl) <| .nil0) ?_
            replace h := h.symm
            subst h
            refine .keepL [] [(6, .cptr [.val (.bool false), .val (.int .i64 0), .val (.int .u64 0), .rows (([] : List Int).map (cInt .u64)), .rows (x4.map TCell.cells), .rows (([] : List TWeight).map TWeight.cells)] 0)] [] (by decide) (by decide) ⟨cFixP rfl rfl (.cons (.free rfl rfl) <| .cons (.free rfl rfl) <| .cons (.free rfl rfl) <| .cons (.nil) <| .cons (cFixO (l := x4) sl45 rfl rfl rfl rfl) <| .cons (.nil) <| .nil), trivial⟩ trivial ?_
            exact .ret rfl
          · rintro r_ rfl
            exact h
          · rintro ⟨x2, x3⟩ z1 h hn1 hx1 hr1
            dsimp only [r05_Then.b1] at h
            refine .seq ?_
            refine .seq ?_
            refine .reg0 rfl (.op 0 rfl (mvV rfl) <| .op 0 rfl (faP fa25_1 rfl) <| .op 0 rfl (ldP rfl sz3 ag3 rfl) <| .op 0 rfl (ltI rfl rfl) <| .nil0) ?_
            by_cases c8 : x3 < a0.Dim
            · rw [if_pos c8] at h
              refine .condT rfl (decide_eq_true c8) ?_
              refine .skip ?_
              refine .seq ?_
              refine .block ?_
              obtain ⟨g21_7, h⟩ := h
              obtain ⟨t21_9, g21_9, h⟩ := h
              obtain ⟨g21_11, h⟩ := h
              refine .room 0 ?_
              refine .room 0 ?_
              refine .reg1 (e1 := listEnv [(3, .ptr 0 1 3 0 0), (4, .ptr 1 1 6 0 0), (5, .ptr 2 1 6 0 0), (6, .ptr 3 1 6 0 0), (7, .ptr 4 1 6 0 0), (8, .val (.int .i64 x3))]) (H1 := [⟨3, [(TSpace.lit a0)], 0, none⟩, ⟨6, [(TWeight.lit a1)], 0, none⟩, ⟨6, [(TWeight.lit a2)], 0, none⟩, ⟨6, [[.val (.bool false), .val (.int .i64 0), .val (.int .u64 0), .val (.slice none 0 0), .val (.slice none 0 0), .val (.slice none 0 0)]], 0, none⟩, ⟨6, [[.val (.bool false), .val (.int .i64 0), .val (.int .u64 0), .val (.slice none 0 0), .own 5 ((x2 ++ [t21_9]).length), .val (.slice none 0 0)]], 0, none⟩, ⟨3, (x2 ++ [t21_9]).map TCell.cells, 0, none⟩, ⟨3, [t21_9].map TCell.cells, 0, none⟩, Blk.hole]) rfl ?_ ?_
              · exact .drawM [(12, 63, .ptr 4 1 6 0 4), (11, 62, .own 5 ((x2 ++ [t21_9]).length)), (10, 61, .own 6 ([t21_9].length)), (9, 60, .agg (TCell.lit t21_9)), (8, 59, .agg (TCell.lit (rdl a2.Cells x3))), (7, 58, .cptr (TCell.lit (rdl a2.Cells x3)) 0), (6, 57, .val (.int .i64 x3)), (5, 56, .rows (a2.Cells.map TCell.cells)), (4, 55, .ptr 2 1 6 0 4), (3, 54, .rows (a1.Cells.map TCell.cells)), (2, 53, .ptr 1 1 6 0 4), (1, 52, .own 5 x2.length), (0, 51, .ptr 4 1 6 0 4)] [(13, 4, ⟨6, [[.val (.bool false), .val (.int .i64 0), .val (.int .u64 0), .val (.slice none 0 0), .own 5 ((x2 ++ [t21_9]).length), .val (.slice none 0 0)]], 0, none⟩), (11, 5, ⟨3, (x2 ++ [t21_9]).map TCell.cells, 0, none⟩), (10, 6, ⟨3, [t21_9].map TCell.cells, 0, none⟩)] [[], [0], [], [2], [], [4], [], [5, 4, 6], [7, 5, 4, 6], [3, 2, 8, 7, 5, 4, 6], [9, 3, 2, 8, 7, 5, 4, 6], [1, 0, 10, 9, 3, 2, 8, 7, 5, 4, 6], [0, 1, 2, 3, 4, 5, 6, 7, 8, 9, 10, 11], [12, 0, 1, 2, 3, 4, 5, 6, 7, 8, 9, 10, 11]] (by rfl) (by rfl) (by rfl) (by exact ⟨fun S hS hD hn => .one 0 hS hD hn rfl rfl (faP fa48_3 rfl) rfl rfl rfl, fun S hS hD hn => .one 0 hS hD hn rfl rfl (ldP rfl sz45 ag45 rfl) rfl rfl rfl, fun S hS hD hn => .one 0 hS hD hn rfl rfl (faP fa48_3 rfl) rfl rfl rfl, fun S hS hD hn => .one 0 hS hD hn rfl rfl (ldP rfl sz45 ag45 rfl) rfl rfl rfl, fun S hS hD hn => .one 0 hS hD hn rfl rfl (faP fa48_3 rfl) rfl rfl rfl, fun S hS hD hn => .one 0 hS hD hn rfl rfl (ldP rfl sz45 ag45 rfl) rfl rfl rfl, fun S hS hD hn => .one 0 hS hD hn rfl rfl (mvV rfl) rfl rfl rfl, fun S hS hD hn => .one 0 hS hD hn rfl rfl (ixR (l := a2.Cells) (lit := TCell.lit) sl45 rfl rfl (fun _ => rfl) g21_7.1 g21_7.2) rfl rfl rfl, fun S hS hD hn => .one 0 hS hD hn rfl rfl (ldCG rfl sz72 ag72 rfl) rfl rfl rfl, fun S hS hD hn => .oneI hS hD hn rfl rfl (callee_of rfl go76 rfl) (.pure rfl rfl (r05_behind.D g21_9)) rfl rfl rfl, fun S hS hD hn => .one 6 hS hD hn rfl rfl (bldL (s := 3) (cs := [.val (.int .u64 t21_9.From), .val (.int .i64 t21_9.Kind), .val (.int .i64 t21_9.K)]) un45 sz72 ze72 ⟨by decide, rfl, by decide⟩ rfl rfl rfl rfl) rfl rfl rfl, fun S hS hD hn => .one 0 hS hD hn rfl rfl (ap1 (l := x2) t21_9 sl45 rfl rfl rfl (Nat.zero_le _) (elems_own (l := [t21_9]) rfl rfl) g21_11) rfl rfl rfl, fun S hS hD hn => .one 0 hS hD hn rfl rfl (faP fa48_3 rfl) rfl rfl rfl, fun S hS hD hn => .one0 0 rfl rfl (stB (cs0 := [.val (.bool false), .val (.int .i64 0), .val (.int .u64 0), .val (.slice none 0 0), .own 5 x2.length, .val (.slice none 0 0)]) (cs := [.own 5 ((x2 ++ [t21_9]).length)]) (cs1 := [.val (.bool false), .val (.int .i64 0), .val (.int .u64 0), .val (.slice none 0 0), .own 5 ((x2 ++ [t21_9]).length), .val (.slice none 0 0)]) rfl rfl sz45 rfl ⟨Nat.le_of_ble_eq_true rfl, rfl⟩ rfl) (drawE_other _ _ _ _ rfl) rfl, trivial⟩) _ (by exact ⟨.ptr rfl, .ptr rfl, .ptr rfl, .ptr rfl, .ptr rfl, .free rfl rfl, trivial⟩) (by rfl)
              refine .inBlock ?_
              refine .reg0 rfl (.op 0 rfl (mvV rfl) <| .op 0 rfl (addI rfl rfl) <| .op 0 rfl (asV rfl) <| .nil0) ?_
              refine .keepL [0, 1, 2, 3, 4, 5] [(3, .ptr 0 1 3 0 0), (4, .ptr 1 1 6 0 0), (5, .ptr 2 1 6 0 0), (6, .ptr 3 1 6 0 0), (7, .ptr 4 1 6 0 0), (8, .val (.int .i64 (IntKind.i64.wrap (x3 + 1))))] [⟨3, [(TSpace.lit a0)], 0, none⟩, ⟨6, [(TWeight.lit a1)], 0, none⟩, ⟨6, [(TWeight.lit a2)], 0, none⟩, ⟨6, [[.val (.bool false), .val (.int .i64 0), .val (.int .u64 0), .val (.slice none 0 0), .val (.slice none 0 0), .val (.slice none 0 0)]], 0, none⟩, ⟨6, [[.val (.bool false), .val (.int .i64 0), .val (.int .u64 0), .val (.slice none 0 0), .own 5 ((x2 ++ [t21_9]).length), .val (.slice none 0 0)]], 0, none⟩, ⟨3, (x2 ++ [t21_9]).map TCell.cells, 0, none⟩] (by decide) (by decide) ⟨.ptr rfl, .ptr rfl, .ptr rfl, .ptr rfl, .ptr rfl, .free rfl rfl, trivial⟩ ⟨⟨_, rfl, bcBox (all2_free rfl)⟩, ⟨_, rfl, bcBox (all2_free rfl)⟩, ⟨_, rfl, bcBox (all2_free rfl)⟩, ⟨_, rfl, bcBox (all2_free rfl)⟩, ⟨_, rfl, bcBox (.cons (.free rfl rfl) <| .cons (.free rfl rfl) <| .cons (.free rfl rfl) <| .cons (.free rfl rfl) <| .cons (.own rfl) <| .cons (.free rfl rfl) <| .nil)⟩, ⟨_, rfl, bcRow (l := (x2 ++ [t21_9])) sl45 (Nat.le_refl _) rfl⟩, trivial⟩ ?_
              exact hn1 _ h
            · rw [if_neg c8] at h
              refine .condF rfl (decide_eq_false c8) ?_
              refine .exit rfl ?_
              refine .keepL [3, 4, 5] [(6, .ptr 0 1 6 0 0), (7, .ptr 1 1 6 0 0)] [⟨6, [[.val (.bool false), .val (.int .i64 0), .val (.int .u64 0), .val (.slice none 0 0), .val (.slice none 0 0), .val (.slice none 0 0)]], 0, none⟩, ⟨6, [[.val (.bool false), .val (.int .i64 0), .val (.int .u64 0), .val (.slice none 0 0), .own 2 x2.length, .val (.slice none 0 0)]], 0, none⟩, ⟨3, x2.map TCell.cells, 0, none⟩] (by decide) (by decide) ⟨.ptr rfl, .ptr rfl, trivial⟩ ⟨⟨_, rfl, bcBox (all2_free rfl)⟩, ⟨_, rfl, bcBox (.cons (.free rfl rfl) <| .cons (.free rfl rfl) <| .cons (.free rfl rfl) <| .cons (.free rfl rfl) <| .cons (.own rfl) <| .cons (.free rfl rfl) <| .nil)⟩, ⟨_, rfl, bcRow (l := x2) sl45 (Nat.le_refl _) rfl⟩, trivial⟩ ?_
              exact hx1 _ h
        · rw [if_neg c5] at h
          refine .condF rfl (beq_eq_false_iff_ne.mpr c5) ?_
          refine .seq ?_
          refine .reg0 rfl (.op 0 rfl (eqI rfl rfl) <| .op 0 rfl (asV rfl) <| .nil0) ?_
          by_cases c9 : a0.Tag = 5
          · rw [if_pos c9] at h
            refine .condT rfl (beq_iff_eq.mpr c9) ?_
            obtain ⟨g25_2, h⟩ := h
            obtain ⟨g25_6, h⟩ := h
            obtain ⟨g25_10, h⟩ := h
            obtain ⟨t25_12, g25_12, h⟩ := h
            obtain ⟨g25_15, h⟩ := h
            obtain ⟨g25_19, h⟩ := h
            obtain ⟨g25_23, h⟩ := h
            obtain ⟨t25_25, g25_25, h⟩ := h
            refine .room 0 ?_
            refine .reg1 (e1 := listEnv [(6, .ptr 3 1 6 0 0), (7, .ptr 4 1 6 0 0)]) (H1 := [⟨3, [(TSpace.lit a0)], 0, none⟩, ⟨6, [(TWeight.lit a1)], 0, none⟩, ⟨6, [(TWeight.lit a2)], 0, none⟩, ⟨6, [[.val (.bool false), .val (.int .i64 0), .val (.int .u64 0), .val (.slice none 0 0), .val (.slice none 0 0), .val (.slice none 0 0)]], 0, none⟩, ⟨6, [[.val (.bool false), .val (.int .i64 0), .val (.int .u64 0), .val (.slice none 0 0), .val (.slice none 0 0), .own 5 ([t25_12, t25_25].length)]], 0, none⟩, ⟨6, [t25_12, t25_25].map TWeight.cells, 0, none⟩]) rfl ?_ ?_
            · exact .drawM [(27, 93, .ptr 4 1 6 0 5), (26, 92, .own 5 ([t25_12, t25_25].length)), (25, 91, .agg (TWeight.lit t25_25)), (24, 90, .agg (TWeight.lit (rdl a2.Parts 1))), (23, 89, .cptr (TWeight.lit (rdl a2.Parts 1)) 0), (22, 88, .rows (a2.Parts.map TWeight.cells)), (21, 87, .ptr 2 1 6 0 5), (20, 86, .agg (TWeight.lit (rdl a1.Parts 1))), (19, 85, .cptr (TWeight.lit (rdl a1.Parts 1)) 0), (18, 84, .rows (a1.Parts.map TWeight.cells)), (17, 83, .ptr 1 1 6 0 5), (16, 82, .agg (TSpace.lit (rdl a0.Parts 1))), (15, 81, .cptr (TSpace.lit (rdl a0.Parts 1)) 0), (14, 80, .rows (a0.Parts.map TSpace.cells)), (13, 79, .ptr 0 1 3 0 2), (12, 78, .agg (TWeight.lit t25_12)), (11, 77, .agg (TWeight.lit (rdl a2.Parts 0))), (10, 76, .cptr (TWeight.lit (rdl a2.Parts 0)) 0), (9, 75, .rows (a2.Parts.map TWeight.cells)), (8, 74, .ptr 2 1 6 0 5), (7, 73, .agg (TWeight.lit (rdl a1.Parts 0))), (6, 72, .cptr (TWeight.lit (rdl a1.Parts 0)) 0), (5, 71, .rows (a1.Parts.map TWeight.cells)), (4, 70, .ptr 1 1 6 0 5), (3, 69, .agg (TSpace.lit (rdl a0.Parts 0))), (2, 68, .cptr (TSpace.lit (rdl a0.Parts 0)) 0), (1, 67, .rows (a0.Parts.map TSpace.cells)), (0, 66, .ptr 0 1 3 0 2)] [(28, 4, ⟨6, [[.val (.bool false), .val (.int .i64 0), .val (.int .u64 0), .val (.slice none 0 0), .val (.slice none 0 0), .own 5 ([t25_12, t25_25].length)]], 0, none⟩), (26, 5, ⟨6, [t25_12, t25_25].map TWeight.cells, 0, none⟩)] [[], [0], [1, 0], [2, 1, 0], [], [4], [5, 4], [6, 5, 4], [], [8], [9, 8], [10, 9, 8], [3, 2, 1, 0, 7, 6, 5, 4, 11, 10, 9, 8], [], [13], [14, 13], [15, 14, 13], [], [17], [18, 17], [19, 18, 17], [], [21], [22, 21], [23, 22, 21], [16, 15, 14, 13, 20, 19, 18, 17, 24, 23, 22, 21, 12, 3, 2, 1, 0, 7, 6, 5, 4, 11, 10, 9, 8], [12, 3, 2, 1, 0, 7, 6, 5, 4, 11, 10, 9, 8, 25, 16, 15, 14, 13, 20, 19, 18, 17, 24, 23, 22, 21], [0, 1, 2, 3, 4, 5, 6, 7, 8, 9, 10, 11, 12, 13, 14, 15, 16, 17, 18, 19, 20, 21, 22, 23, 24, 25, 26], [27, 0, 1, 2, 3, 4, 5, 6, 7, 8, 9, 10, 11, 12, 13, 14, 15, 16, 17, 18, 19, 20, 21, 22, 23, 24, 25, 26]] (by rfl) (by rfl) (by rfl) (by exact ⟨fun S hS hD hn => .one 0 hS hD hn rfl rfl (faP fa25_2 rfl) rfl rfl rfl, fun S hS hD hn => .one 0 hS hD hn rfl rfl (ldP rfl sz23 ag23 rfl) rfl rfl rfl, fun S hS hD hn => .one 0 hS hD hn rfl rfl (ixR (l := a0.Parts) (lit := TSpace.lit) sl23 rfl rfl TSpace.cells_lit g25_2.1 g25_2.2) rfl rfl rfl, fun S hS hD hn => .one 0 hS hD hn rfl rfl (ldCG rfl sz25 ag25 rfl) rfl rfl rfl, fun S hS hD hn => .one 0 hS hD hn rfl rfl (faP fa48_4 rfl) rfl rfl rfl, fun S hS hD hn => .one 0 hS hD hn rfl rfl (ldP rfl sz46 ag46 rfl) rfl rfl rfl, fun S hS hD hn => .one 0 hS hD hn rfl rfl (ixR (l := a1.Parts) (lit := TWeight.lit) sl46 rfl rfl TWeight.cells_lit g25_6.1 g25_6.2) rfl rfl rfl, fun S hS hD hn => .one 0 hS hD hn rfl rfl (ldCG rfl sz48 ag48 rfl) rfl rfl rfl, fun S hS hD hn => .one 0 hS hD hn rfl rfl (faP fa48_4 rfl) rfl rfl rfl, fun S hS hD hn => .one 0 hS hD hn rfl rfl (ldP rfl sz46 ag46 rfl) rfl rfl rfl, fun S hS hD hn => .one 0 hS hD hn rfl rfl (ixR (l := a2.Parts) (lit := TWeight.lit) sl46 rfl rfl TWeight.cells_lit g25_10.1 g25_10.2) rfl rfl rfl, fun S hS hD hn => .one 0 hS hD hn rfl rfl (ldCG rfl sz48 ag48 rfl) rfl rfl rfl, fun S hS hD hn => .oneI hS hD hn rfl rfl (callee_of rfl go57 rfl) (.pure rfl rfl (hs57 _ _ _ _ g25_12)) rfl rfl rfl, fun S hS hD hn => .one 0 hS hD hn rfl rfl (faP fa25_2 rfl) rfl rfl rfl, fun S hS hD hn => .one 0 hS hD hn rfl rfl (ldP rfl sz23 ag23 rfl) rfl rfl rfl, fun S hS hD hn => .one 0 hS hD hn rfl rfl (ixR (l := a0.Parts) (lit := TSpace.lit) sl23 rfl rfl TSpace.cells_lit g25_15.1 g25_15.2) rfl rfl rfl, fun S hS hD hn => .one 0 hS hD hn rfl rfl (ldCG rfl sz25 ag25 rfl) rfl rfl rfl, fun S hS hD hn => .one 0 hS hD hn rfl rfl (faP fa48_4 rfl) rfl rfl rfl, fun S hS hD hn => .one 0 hS hD hn rfl rfl (ldP rfl sz46 ag46 rfl) rfl rfl rfl, fun S hS hD hn => .one 0 hS hD hn rfl rfl (ixR (l := a1.Parts) (lit := TWeight.lit) sl46 rfl rfl TWeight.cells_lit g25_19.1 g25_19.2) rfl rfl rfl, fun S hS hD hn => .one 0 hS hD hn rfl rfl (ldCG rfl sz48 ag48 rfl) rfl rfl rfl, fun S hS hD hn => .one 0 hS hD hn rfl rfl (faP fa48_4 rfl) rfl rfl rfl, fun S hS hD hn => .one 0 hS hD hn rfl rfl (ldP rfl sz46 ag46 rfl) rfl rfl rfl, fun S hS hD hn => .one 0 hS hD hn rfl rfl (ixR (l := a2.Parts) (lit := TWeight.lit) sl46 rfl rfl TWeight.cells_lit g25_23.1 g25_23.2) rfl rfl rfl, fun S hS hD hn => .one 0 hS hD hn rfl rfl (ldCG rfl sz48 ag48 rfl) rfl rfl rfl, fun S hS hD hn => .oneI hS hD hn rfl rfl (callee_of rfl go57 rfl) (.pure rfl rfl (hs57 _ _ _ _ g25_25)) rfl rfl rfl, fun S hS hD hn => .one 5 hS hD hn rfl rfl (bldT (s := 6) (cs := [.val (.bool t25_12.Zero), .val (.int .i64 t25_12.Cost), .val (.int .u64 t25_12.Facts.Gen), .rows (t25_12.Facts.Rows.map (cInt .u64)), .rows (t25_12.Cells.map TCell.cells), .rows (t25_12.Parts.map TWeight.cells), .val (.bool t25_25.Zero), .val (.int .i64 t25_25.Cost), .val (.int .u64 t25_25.Facts.Gen), .rows (t25_25.Facts.Rows.map (cInt .u64)), .rows (t25_25.Cells.map TCell.cells), .rows (t25_25.Parts.map TWeight.cells)]) (cf := TWeight.cells) [t25_12, t25_25] un46 sz48 ze48 ⟨by decide, rfl, by decide⟩ rfl rfl rfl (by simp only [List.map, TWeight.cells_lit]; rfl) rfl) rfl rfl rfl, fun S hS hD hn => .one 0 hS hD hn rfl rfl (faP fa48_4 rfl) rfl rfl rfl, fun S hS hD hn => .one0 0 rfl rfl (stB (cs0 := [.val (.bool false), .val (.int .i64 0), .val (.int .u64 0), .val (.slice none 0 0), .val (.slice none 0 0), .val (.slice none 0 0)]) (cs := [.own 5 ([t25_12, t25_25].length)]) (cs1 := [.val (.bool false), .val (.int .i64 0), .val (.int .u64 0), .val (.slice none 0 0), .val (.slice none 0 0), .own 5 ([t25_12, t25_25].length)]) rfl rfl sz46 rfl ⟨Nat.le_of_ble_eq_true rfl, rfl⟩ rfl) (drawE_other _ _ _ _ rfl) rfl, trivial⟩) _ (by exact ⟨.ptr rfl, .ptr rfl, trivial⟩) (by rfl)
            refine .inBlock ?_
            refine .seq ?_
            refine .reg0 rfl (.op 0 rfl (ldG rfl sz48 ag48 rfl) <| .op 0 rfl (stB (cs0 := [.val (.bool false), .val (.int .i64 0), .val (.int .u64 0), .val (.slice none 0 0), .val (.slice none 0 0), .val (.slice none 0 0)]) (cs := [.val (.bool false), .val (.int .i64 0), .val (.int .u64 0), .val (.slice none 0 0), .val (.slice none 0 0), .own 5 ([t25_12, t25_25].length)]) (cs1 := [.val (.bool false), .val (.int .i64 0), .val (.int .u64 0), .val (.slice none 0 0), .val (.slice none 0 0), .own 5 ([t25_12, t25_25].length)]) rfl rfl sz48 rfl ⟨Nat.le_of_ble_eq_true rfl, rfl⟩ rfl) <| .nil0) ?_
            replace h := h.symm
            subst h
            refine .keepL [] [(6, .cptr [.val (.bool false), .val (.int .i64 0), .val (.int .u64 0), .rows (([] : List Int).map (cInt .u64)), .rows (([] : List TCell).map TCell.cells), .rows ([t25_12, t25_25].map TWeight.cells)] 0)] [] (by decide) (by decide) ⟨cFixP rfl rfl (.cons (.free rfl rfl) <| .cons (.free rfl rfl) <| .cons (.free rfl rfl) <| .cons (.nil) <| .cons (.nil) <| .cons (cFixO (l := [t25_12, t25_25]) sl46 rfl rfl rfl rfl) <| .nil), trivial⟩ trivial ?_
            exact .ret rfl
          · rw [if_neg c9] at h
            refine .condF rfl (beq_eq_false_iff_ne.mpr c9) ?_
            refine .skip ?_
            refine .inBlock ?_
            refine .seq ?_
            refine .reg0 rfl (.op 0 rfl (ldG rfl sz48 ag48 rfl) <| .op 0 rfl (stB (cs0 := [.val (.bool false), .val (.int .i64 0), .val (.int .u64 0), .val (.slice none 0 0), .val (.slice none 0 0), .val (.slice none 0 0)]) (cs := [.val (.bool false), .val (.int .i64 0), .val (.int .u64 0), .val (.slice none 0 0), .val (.slice none 0 0), .val (.slice none 0 0)]) (cs1 := [.val (.bool false), .val (.int .i64 0), .val (.int .u64 0), .val (.slice none 0 0), .val (.slice none 0 0), .val (.slice none 0 0)]) rfl rfl sz48 rfl ⟨Nat.le_of_ble_eq_true rfl, rfl⟩ rfl) <| .nil0) ?_
            replace h := h.symm
            subst h
            refine .keepL [] [(6, .cptr [.val (.bool false), .val (.int .i64 0), .val (.int .u64 0), .rows (([] : List Int).map (cInt .u64)), .rows (([] : List TCell).map TCell.cells), .rows (([] : List TWeight).map TWeight.cells)] 0)] [] (by decide) (by decide) ⟨cFixP rfl rfl (.cons (.free rfl rfl) <| .cons (.free rfl rfl) <| .cons (.free rfl rfl) <| .cons (.nil) <| .cons (.nil) <| .cons (.nil) <| .nil), trivial⟩ trivial ?_
            exact .ret rfl
def r05_Then.fN : Nat → TSpace → TWeight → TWeight → TWeight → Prop
  | 0 => fun _ _ _ _ => False
  | n + 1 => r05_Then.step (r05_Then.fN n)
theorem r05_Then.ND : ∀ (n : Nat) {a0 : TSpace} {a1 : TWeight} {a2 : TWeight} {r : TWeight} (h : r05_Then.fN n a0 a1 a2 r), D Try.prog X (.callH 57 [.agg (TSpace.lit a0), .agg (TWeight.lit a1), .agg (TWeight.lit a2)] [] (.agg (TWeight.lit r)) [])
  | 0, _, _, _, _, h => h.elim
  | n + 1, _, _, _, _, h => r05_Then.stepD (fun _ _ _ _ h => r05_Then.ND n h) h
def r05_Then.f (a0 : TSpace) (a1 : TWeight) (a2 : TWeight) (r : TWeight) : Prop := ∃ n, r05_Then.fN n a0 a1 a2 r
theorem r05_Then.D {a0 : TSpace} {a1 : TWeight} {a2 : TWeight} {r : TWeight} (h : r05_Then.f a0 a1 a2 r) : D Try.prog X (.callH 57 [.agg (TSpace.lit a0), .agg (TWeight.lit a1), .agg (TWeight.lit a2)] [] (.agg (TWeight.lit r)) []) := by obtain ⟨n, h⟩ := h; exact r05_Then.ND n h
def r10_Ext.f (a0 : TSpace) (a1 : Bool) (a2 : TWeight) (a3 : TWeight) (r : TWeight) : Prop :=
  if a1 = true then (∃ t3_3 : TWeight, (r05_Then.f a0 a3 a2 t3_3) ∧ r = t3_3) else (∃ t4_3 : TWeight, (r05_Then.f a0 a2 a3 t4_3) ∧ r = t4_3)
theorem r10_Ext.D {a0 : TSpace} {a1 : Bool} {a2 : TWeight} {a3 : TWeight} {r : TWeight} (h : r10_Ext.f a0 a1 a2 a3 r) : D Try.prog X (.callH 41 [.agg (TSpace.lit a0), .val (.bool a1), .agg (TWeight.lit a2), .agg (TWeight.lit a3)] [] (.agg (TWeight.lit r)) []) := by
  unfold r10_Ext.f at h
  refine .enter 18 0 fn41 rfl rfl rfl ?_
  refine .seq ?_
  refine .room 0 ?_
  refine .room 0 ?_
  refine .room 0 ?_
  refine .room 0 ?_
  refine .reg0 rfl (.op 0 rfl (bxP (s := 3) (cs := (TSpace.lit a0)) rfl ⟨rfl, by decide, rfl⟩ rfl) <| .op 1 rfl (bxP (s := 6) (cs := (TWeight.lit a2)) rfl ⟨rfl, by decide, rfl⟩ rfl) <| .op 2 rfl (bxP (s := 6) (cs := (TWeight.lit a3)) rfl ⟨rfl, by decide, rfl⟩ rfl) <| .op 3 rfl (alP (s := 6) ze48 ⟨rfl, by decide, rfl⟩ rfl) <| .nil0) ?_
  refine .seq ?_
  refine .seq ?_
  refine .reg0 rfl (.op 0 rfl (mvV rfl) <| .nil0) ?_
  by_cases c1 : a1 = true
  · rw [if_pos c1] at h
    refine .condT rfl c1 ?_
    refine .seq ?_
    obtain ⟨t3_3, g3_3, h⟩ := h
    refine .reg0 rfl (.op 0 rfl (ldG rfl sz25 ag25 rfl) <| .op 0 rfl (ldG rfl sz48 ag48 rfl) <| .op 0 rfl (ldG rfl sz48 ag48 rfl) <| .callI rfl (callee_of rfl go57 rfl) (.pure rfl rfl (r05_Then.D g3_3)) <| .op 0 rfl (stB (cs0 := [.val (.bool false), .val (.int .i64 0), .val (.int .u64 0), .val (.slice none 0 0), .val (.slice none 0 0), .val (.slice none 0 0)]) (cs := (TWeight.lit t3_3)) (cs1 := (TWeight.lit t3_3)) rfl rfl sz48 rfl ⟨Nat.le_of_ble_eq_true rfl, rfl⟩ rfl) <| .nil0) ?_
    replace h := h.symm
    subst h
    refine .keepL [] [(8, .cptr (TWeight.lit t3_3) 0)] [] (by decide) (by decide) ⟨cFixP rfl rfl (.cons (.free rfl rfl) <| .cons (.free rfl rfl) <| .cons (.free rfl rfl) <| .cons (.free rfl rfl) <| .cons (.free rfl rfl) <| .cons (.free rfl rfl) <| .nil), trivial⟩ trivial ?_
    exact .ret rfl
  · rw [if_neg c1] at h
    refine .condF rfl (Bool.eq_false_iff.mpr c1) ?_
    refine .skip ?_
    refine .seq ?_
    obtain ⟨t4_3, g4_3, h⟩ := h
    refine .reg0 rfl (.op 0 rfl (ldG rfl sz25 ag25 rfl) <| .op 0 rfl (ldG rfl sz48 ag48 rfl) <| .op 0 rfl (ldG rfl sz48 ag48 rfl) <| .callI rfl (callee_of rfl go57 rfl) (.pure rfl rfl (r05_Then.D g4_3)) <| .op 0 rfl (stB (cs0 := [.val (.bool false), .val (.int .i64 0), .val (.int .u64 0), .val (.slice none 0 0), .val (.slice none 0 0), .val (.slice none 0 0)]) (cs := (TWeight.lit t4_3)) (cs1 := (TWeight.lit t4_3)) rfl rfl sz48 rfl ⟨Nat.le_of_ble_eq_true rfl, rfl⟩ rfl) <| .nil0) ?_
    replace h := h.symm
    subst h
    refine .keepL [] [(8, .cptr (TWeight.lit t4_3) 0)] [] (by decide) (by decide) ⟨cFixP rfl rfl (.cons (.free rfl rfl) <| .cons (.free rfl rfl) <| .cons (.free rfl rfl) <| .cons (.free rfl rfl) <| .cons (.free rfl rfl) <| .cons (.free rfl rfl) <| .nil), trivial⟩ trivial ?_
    exact .ret rfl
def r03_Combine.b1 (a0 : Int) (a1 : TFacts) (a2 : TFacts) : ((List Int) × Int) → Rnd (((List Int) × Int)) ((List Int)) (TFacts × Int) → Prop := fun (x2, x3) z1 => if x3 < a0 then (((InR x3 a1.Rows.length)) ∧ ((InR x3 a2.Rows.length)) ∧ ∃ t13_12 : Int, (r03_or.f (rdl a1.Rows x3) (rdl a2.Rows x3) t13_12) ∧ ((Fits (x2.length + 1) 8)) ∧ z1 = .next ((x2 ++ [t13_12]), (IntKind.i64.wrap (x3 + 1)))) else (z1 = .exit x2)
def r03_Combine.f (a0 : Int) (a1 : TFacts) (a2 : TFacts) (r : TFacts × Int) : Prop :=
  ∃ t2_3 : Int, (r03_two.f a0 a1 a2 t2_3) ∧ if t2_3 = 0 then (∃ t4_4 : Int, (r03_or.f a1.Gen a2.Gen t4_4) ∧ ∃ o1 : Fin ((List Int)) (TFacts × Int), Loop (r03_Combine.b1 a0 a1 a2) ([], 0) o1 ∧ o1.on (fun x4 => ∃ t15_1 : TFacts, (r03_canon.f (TFacts.mk t4_4 x4) t15_1) ∧ r = (t15_1, 0)) (fun r_ => r = r_)) else (r = ((TFacts.mk 0 []), t2_3))
theorem r03_Combine.D {a0 : Int} {a1 : TFacts} {a2 : TFacts} {r : TFacts × Int} (h : r03_Combine.f a0 a1 a2 r) : D Try.prog X (.callH 55 [.val (.int .i64 a0), .agg (TFacts.lit a1), .agg (TFacts.lit a2)] [] (.tuple [.agg (TFacts.lit r.1), .val (.int .i64 r.2)]) []) := by
  unfold r03_Combine.f at h
  refine .enter 48 0 fn55 rfl rfl rfl ?_
  refine .seq ?_
  refine .room 0 ?_
  refine .room 0 ?_
  refine .room 0 ?_
  refine .reg0 rfl (.op 0 rfl (bxP (s := 2) (cs := (TFacts.lit a1)) rfl ⟨rfl, by decide, rfl⟩ rfl) <| .op 1 rfl (bxP (s := 2) (cs := (TFacts.lit a2)) rfl ⟨rfl, by decide, rfl⟩ rfl) <| .op 2 rfl (alP (s := 2) ze44 ⟨rfl, by decide, rfl⟩ rfl) <| .op 0 rfl (asV rfl) <| .nil0) ?_
  refine .seq ?_
  obtain ⟨t2_3, g2_3, h⟩ := h
  refine .reg0 rfl (.op 0 rfl (mvV rfl) <| .op 0 rfl (ldG rfl sz44 ag44 rfl) <| .op 0 rfl (ldG rfl sz44 ag44 rfl) <| .callI rfl (callee_of rfl go72 rfl) (.pure rfl rfl (r03_two.D g2_3)) <| .op 0 rfl (asV rfl) <| .nil0) ?_
  refine .seq ?_
  refine .seq ?_
  refine .reg0 rfl (.op 0 rfl (mvV rfl) <| .op 0 rfl (neI rfl rfl) <| .nil0) ?_
  by_cases c1 : t2_3 = 0
  · rw [if_pos c1] at h
    refine .condF rfl (bne_eq_false_iff_eq.mpr c1) ?_
    refine .skip ?_
    refine .seq ?_
    obtain ⟨t4_4, g4_4, h⟩ := h
    refine .room 0 ?_
    refine .reg0 rfl (.op 0 rfl (faP fa44_0 rfl) <| .op 0 rfl (ldP rfl sz41 ag41 rfl) <| .op 0 rfl (faP fa44_0 rfl) <| .op 0 rfl (ldP rfl sz41 ag41 rfl) <| .callI rfl (callee_of rfl go73 rfl) (.pure rfl rfl (r03_or.D g4_4)) <| .op 0 rfl (bldS (cs := [.val (.int .u64 t4_4), .val (.slice none 0 0)]) ze44 pl44 rfl rfl) <| .op 3 rfl (alP (s := 2) ze44 ⟨rfl, by decide, rfl⟩ rfl) <| .op 0 rfl (stB (cs0 := [.val (.int .u64 0), .val (.slice none 0 0)]) (cs := [.val (.int .u64 t4_4), .val (.slice none 0 0)]) (cs1 := [.val (.int .u64 t4_4), .val (.slice none 0 0)]) rfl rfl sz44 rfl ⟨Nat.le_of_ble_eq_true rfl, rfl⟩ rfl) <| .nil0) ?_
    refine .seq ?_
    refine .seq ?_
    refine .reg0 rfl (.op 0 rfl (asV rfl) <| .nil0) ?_
    refine .block ?_
    refine .room 1 ?_
    refine .keepL [0, 1, 2, 3, 4] [(0, .val (.int .i64 a0)), (4, .ptr 0 1 2 0 0), (5, .ptr 1 1 2 0 0), (6, .ptr 2 1 2 0 0), (9, .ptr 3 1 2 0 0), (10, .val (.int .i64 0))] [⟨2, [(TFacts.lit a1)], 0, none⟩, ⟨2, [(TFacts.lit a2)], 0, none⟩, ⟨2, [[.val (.int .u64 0), .val (.slice none 0 0)]], 0, none⟩, ⟨2, [[.val (.int .u64 t4_4), .own 4 0]], 0, none⟩, ⟨1, [].map (cInt .u64), 0, none⟩] (by decide) (by decide) ⟨.free rfl rfl, .ptr rfl, .ptr rfl, .ptr rfl, .ptr rfl, .free rfl rfl, trivial⟩ ⟨⟨_, rfl, bcBox (all2_free rfl)⟩, ⟨_, rfl, bcBox (all2_free rfl)⟩, ⟨_, rfl, bcBox (all2_free rfl)⟩, ⟨_, rfl, bcBox (.cons (.free rfl rfl) <| .cons (.nilOwn) <| .nil)⟩, ⟨_, rfl, (bcRow (l := []) sl42 (Nat.le_refl _) rfl)⟩, trivial⟩ ?_
    obtain ⟨o1, hL1, h⟩ := h
    refine .loopB (r03_Combine.b1 a0 a1 a2) (fun (x2, x3) => listEnv [(0, .val (.int .i64 a0)), (4, .ptr 0 1 2 0 0), (5, .ptr 1 1 2 0 0), (6, .ptr 2 1 2 0 0), (9, .ptr 3 1 2 0 0), (10, .val (.int .i64 x3))]) (fun (x2, x3) => [⟨2, [(TFacts.lit a1)], 0, none⟩, ⟨2, [(TFacts.lit a2)], 0, none⟩, ⟨2, [[.val (.int .u64 0), .val (.slice none 0 0)]], 0, none⟩, ⟨2, [[.val (.int .u64 t4_4), .own 4 x2.length]], 0, none⟩, ⟨1, x2.map (cInt .u64), 0, none⟩]) (fun x4 => listEnv [(6, .ptr 0 1 2 0 0), (9, .ptr 1 1 2 0 0)]) (fun x4 => [⟨2, [[.val (.int .u64 0), .val (.slice none 0 0)]], 0, none⟩, ⟨2, [[.val (.int .u64 t4_4), .own 2 x4.length]], 0, none⟩, ⟨1, x4.map (cInt .u64), 0, none⟩]) hL1 (fun r_ => r = r_) ?_ ?_ ?_
    · rintro x4 rfl
      try dsimp only [Fin.on] at h
      refine .seq ?_
      obtain ⟨t15_1, g15_1, h⟩ := h
      refine .reg0 rfl (.op 0 rfl (ldG rfl sz44 ag44 rfl) <| .callI rfl (callee_of rfl go74 rfl) (.lendC (args' := [.agg [.val (.int .u64 t4_4), .rows (x4.map (cInt .u64))]])  [2] true (.cons (cAgg (.cons (.free rfl rfl) <| .cons (cFixO (l := x4) sl42 rfl rfl rfl rfl) <| .nil)) <| .nil) (by decide) rfl rfl rfl rfl (r03_canon.D g15_1)) <| .op 0 rfl (stB (cs0 := [.val (.int .u64 0), .val (.slice none 0 0)]) (cs := (TFacts.lit t15_1)) (cs1 := (TFacts.lit t15_1)) rfl rfl sz44 rfl ⟨Nat.le_of_ble_eq_true rfl, rfl⟩ rfl) <| .op 0 rfl (asV rfl) <| .nil0) ?_
      replace h := h.symm
      subst h
      refine .keepL [] [(6, .cptr (TFacts.lit t15_1) 0), (7, .val (.int .i64 0))] [] (by decide) (by decide) ⟨cFixP rfl rfl (.cons (.free rfl rfl) <| .cons (.free rfl rfl) <| .nil), .free rfl rfl, trivial⟩ trivial ?_
      exact .ret rfl
    · rintro r_ rfl
      exact h
    · rintro ⟨x2, x3⟩ z1 h hn1 hx1 hr1
      dsimp only [r03_Combine.b1] at h
      refine .seq ?_
      refine .seq ?_
      refine .reg0 rfl (.op 0 rfl (mvV rfl) <| .op 0 rfl (mvV rfl) <| .op 0 rfl (ltI rfl rfl) <| .nil0) ?_
      by_cases c4 : x3 < a0
      · rw [if_pos c4] at h
        refine .condT rfl (decide_eq_true c4) ?_
        refine .skip ?_
        refine .seq ?_
        refine .block ?_
        obtain ⟨g13_5, h⟩ := h
        obtain ⟨g13_10, h⟩ := h
        obtain ⟨t13_12, g13_12, h⟩ := h
        obtain ⟨g13_14, h⟩ := h
        refine .room 0 ?_
        refine .room 0 ?_
        refine .reg1 (e1 := listEnv [(0, .val (.int .i64 a0)), (4, .ptr 0 1 2 0 0), (5, .ptr 1 1 2 0 0), (6, .ptr 2 1 2 0 0), (9, .ptr 3 1 2 0 0), (10, .val (.int .i64 x3))]) (H1 := [⟨2, [(TFacts.lit a1)], 0, none⟩, ⟨2, [(TFacts.lit a2)], 0, none⟩, ⟨2, [[.val (.int .u64 0), .val (.slice none 0 0)]], 0, none⟩, ⟨2, [[.val (.int .u64 t4_4), .own 4 ((x2 ++ [t13_12]).length)]], 0, none⟩, ⟨1, (x2 ++ [t13_12]).map (cInt .u64), 0, none⟩, ⟨1, [t13_12].map (cInt .u64), 0, none⟩, Blk.hole]) rfl ?_ ?_
        · exact .drawM [(15, 45, .ptr 3 1 2 0 1), (14, 44, .own 4 ((x2 ++ [t13_12]).length)), (13, 43, .own 5 ([t13_12].length)), (12, 42, .val (.int .u64 t13_12)), (11, 41, .val (.int .u64 (rdl a2.Rows x3))), (10, 40, .cptr ((cInt .u64) (rdl a2.Rows x3)) 0), (9, 39, .val (.int .i64 x3)), (8, 38, .rows (a2.Rows.map (cInt .u64))), (7, 37, .ptr 1 1 2 0 1), (6, 36, .val (.int .u64 (rdl a1.Rows x3))), (5, 35, .cptr ((cInt .u64) (rdl a1.Rows x3)) 0), (4, 34, .val (.int .i64 x3)), (3, 33, .rows (a1.Rows.map (cInt .u64))), (2, 32, .ptr 0 1 2 0 1), (1, 31, .own 4 x2.length), (0, 30, .ptr 3 1 2 0 1)] [(16, 3, ⟨2, [[.val (.int .u64 t4_4), .own 4 ((x2 ++ [t13_12]).length)]], 0, none⟩), (14, 4, ⟨1, (x2 ++ [t13_12]).map (cInt .u64), 0, none⟩), (13, 5, ⟨1, [t13_12].map (cInt .u64), 0, none⟩)] [[], [0], [], [2], [], [3, 2, 4], [5, 3, 2, 4], [], [7], [], [8, 7, 9], [10, 8, 7, 9], [6, 5, 3, 2, 4, 11, 10, 8, 7, 9], [12, 6, 5, 3, 2, 4, 11, 10, 8, 7, 9], [1, 0, 13, 12, 6, 5, 3, 2, 4, 11, 10, 8, 7, 9], [0, 1, 2, 3, 4, 5, 6, 7, 8, 9, 10, 11, 12, 13, 14], [15, 0, 1, 2, 3, 4, 5, 6, 7, 8, 9, 10, 11, 12, 13, 14]] (by rfl) (by rfl) (by rfl) (by exact ⟨fun S hS hD hn => .one 0 hS hD hn rfl rfl (faP fa44_1 rfl) rfl rfl rfl, fun S hS hD hn => .one 0 hS hD hn rfl rfl (ldP rfl sz42 ag42 rfl) rfl rfl rfl, fun S hS hD hn => .one 0 hS hD hn rfl rfl (faP fa44_1 rfl) rfl rfl rfl, fun S hS hD hn => .one 0 hS hD hn rfl rfl (ldP rfl sz42 ag42 rfl) rfl rfl rfl, fun S hS hD hn => .one 0 hS hD hn rfl rfl (mvV rfl) rfl rfl rfl, fun S hS hD hn => .one 0 hS hD hn rfl rfl (ixR (l := a1.Rows) (lit := (cInt .u64)) sl42 rfl rfl (fun _ => rfl) g13_5.1 g13_5.2) rfl rfl rfl, fun S hS hD hn => .one 0 hS hD hn rfl rfl (ldC rfl sz41 ag41 rfl) rfl rfl rfl, fun S hS hD hn => .one 0 hS hD hn rfl rfl (faP fa44_1 rfl) rfl rfl rfl, fun S hS hD hn => .one 0 hS hD hn rfl rfl (ldP rfl sz42 ag42 rfl) rfl rfl rfl, fun S hS hD hn => .one 0 hS hD hn rfl rfl (mvV rfl) rfl rfl rfl, fun S hS hD hn => .one 0 hS hD hn rfl rfl (ixR (l := a2.Rows) (lit := (cInt .u64)) sl42 rfl rfl (fun _ => rfl) g13_10.1 g13_10.2) rfl rfl rfl, fun S hS hD hn => .one 0 hS hD hn rfl rfl (ldC rfl sz41 ag41 rfl) rfl rfl rfl, fun S hS hD hn => .oneI hS hD hn rfl rfl (callee_of rfl go73 rfl) (.pure rfl rfl (r03_or.D g13_12)) rfl rfl rfl, fun S hS hD hn => .one 5 hS hD hn rfl rfl (bldL (s := 1) (cs := [.val (.int .u64 t13_12)]) un42 sz41 ze41 ⟨by decide, rfl, by decide⟩ rfl rfl rfl rfl) rfl rfl rfl, fun S hS hD hn => .one 0 hS hD hn rfl rfl (ap1 (l := x2) t13_12 sl42 rfl rfl rfl (Nat.zero_le _) (elems_own (l := [t13_12]) rfl rfl) g13_14) rfl rfl rfl, fun S hS hD hn => .one 0 hS hD hn rfl rfl (faP fa44_1 rfl) rfl rfl rfl, fun S hS hD hn => .one0 0 rfl rfl (stB (cs0 := [.val (.int .u64 t4_4), .own 4 x2.length]) (cs := [.own 4 ((x2 ++ [t13_12]).length)]) (cs1 := [.val (.int .u64 t4_4), .own 4 ((x2 ++ [t13_12]).length)]) rfl rfl sz42 rfl ⟨Nat.le_of_ble_eq_true rfl, rfl⟩ rfl) (drawE_other _ _ _ _ rfl) rfl, trivial⟩) _ (by exact ⟨.free rfl rfl, .ptr rfl, .ptr rfl, .ptr rfl, .ptr rfl, .free rfl rfl, trivial⟩) (by rfl)
        refine .inBlock ?_
        refine .reg0 rfl (.op 0 rfl (mvV rfl) <| .op 0 rfl (addI rfl rfl) <| .op 0 rfl (asV rfl) <| .nil0) ?_
        refine .keepL [0, 1, 2, 3, 4] [(0, .val (.int .i64 a0)), (4, .ptr 0 1 2 0 0), (5, .ptr 1 1 2 0 0), (6, .ptr 2 1 2 0 0), (9, .ptr 3 1 2 0 0), (10, .val (.int .i64 (IntKind.i64.wrap (x3 + 1))))] [⟨2, [(TFacts.lit a1)], 0, none⟩, ⟨2, [(TFacts.lit a2)], 0, none⟩, ⟨2, [[.val (.int .u64 0), .val (.slice none 0 0)]], 0, none⟩, ⟨2, [[.val (.int .u64 t4_4), .own 4 ((x2 ++ [t13_12]).length)]], 0, none⟩, ⟨1, (x2 ++ [t13_12]).map (cInt .u64), 0, none⟩] (by decide) (by decide) ⟨.free rfl rfl, .ptr rfl, .ptr rfl, .ptr rfl, .ptr rfl, .free rfl rfl, trivial⟩ ⟨⟨_, rfl, bcBox (all2_free rfl)⟩, ⟨_, rfl, bcBox (all2_free rfl)⟩, ⟨_, rfl, bcBox (all2_free rfl)⟩, ⟨_, rfl, bcBox (.cons (.free rfl rfl) <| .cons (.own rfl) <| .nil)⟩, ⟨_, rfl, bcRow (l := (x2 ++ [t13_12])) sl42 (Nat.le_refl _) rfl⟩, trivial⟩ ?_
        exact hn1 _ h
      · rw [if_neg c4] at h
        refine .condF rfl (decide_eq_false c4) ?_
        refine .exit rfl ?_
        refine .keepL [2, 3, 4] [(6, .ptr 0 1 2 0 0), (9, .ptr 1 1 2 0 0)] [⟨2, [[.val (.int .u64 0), .val (.slice none 0 0)]], 0, none⟩, ⟨2, [[.val (.int .u64 t4_4), .own 2 x2.length]], 0, none⟩, ⟨1, x2.map (cInt .u64), 0, none⟩] (by decide) (by decide) ⟨.ptr rfl, .ptr rfl, trivial⟩ ⟨⟨_, rfl, bcBox (all2_free rfl)⟩, ⟨_, rfl, bcBox (.cons (.free rfl rfl) <| .cons (.own rfl) <| .nil)⟩, ⟨_, rfl, bcRow (l := x2) sl42 (Nat.le_refl _) rfl⟩, trivial⟩ ?_
        exact hx1 _ h
  · rw [if_neg c1] at h
    refine .condT rfl (bne_iff_ne.mpr c1) ?_
    refine .seq ?_
    refine .reg0 rfl (.op 0 rfl (bldS (cs := [.val (.int .u64 0), .val (.slice none 0 0)]) ze44 pl44 rfl rfl) <| .op 0 rfl (mvV rfl) <| .op 0 rfl (stB (cs0 := [.val (.int .u64 0), .val (.slice none 0 0)]) (cs := [.val (.int .u64 0), .val (.slice none 0 0)]) (cs1 := [.val (.int .u64 0), .val (.slice none 0 0)]) rfl rfl sz44 rfl ⟨Nat.le_of_ble_eq_true rfl, rfl⟩ rfl) <| .op 0 rfl (asV rfl) <| .nil0) ?_
    replace h := h.symm
    subst h
    refine .keepL [] [(6, .cptr [.val (.int .u64 0), .rows (([] : List Int).map (cInt .u64))] 0), (7, .val (.int .i64 t2_3))] [] (by decide) (by decide) ⟨cFixP rfl rfl (.cons (.free rfl rfl) <| .cons (.nil) <| .nil), .free rfl rfl, trivial⟩ trivial ?_
    exact .ret rfl
def r05_Either.b1 (a0 : TSpace) (a1 : TWeight) (a2 : TWeight) : ((List TCell) × Int) → Rnd (((List TCell) × Int)) ((List TCell)) TWeight → Prop := fun (x2, x3) z1 => if x3 < a0.Dim then (((InR x3 a1.Cells.length)) ∧ ((InR x3 a2.Cells.length)) ∧ ∃ t23_12 : TCell, (r05_Joined.f (rdl a1.Cells x3) (rdl a2.Cells x3) t23_12) ∧ ((Fits (x2.length + 1) 24)) ∧ z1 = .next ((x2 ++ [t23_12]), (IntKind.i64.wrap (x3 + 1)))) else (z1 = .exit x2)
def r05_Either.step (self40 : TSpace → TWeight → TWeight → TWeight → Prop) (a0 : TSpace) (a1 : TWeight) (a2 : TWeight) (r : TWeight) : Prop :=
  if a1.Zero = true then (r = a2) else (if a2.Zero = true then (r = a1) else (if a0.Tag = 2 then (r = (TWeight.mk false (if a2.Cost < a1.Cost then a2.Cost else a1.Cost) (TFacts.mk 0 []) [] [])) else (if a0.Tag = 3 then (∃ t12_6 : TFacts × Int, (r03_Combine.f a0.Dim a1.Facts a2.Facts t12_6) ∧ r = (TWeight.mk false 0 t12_6.1 [] [])) else (if a0.Tag = 4 then (∃ o1 : Fin ((List TCell)) TWeight, Loop (r05_Either.b1 a0 a1 a2) ([], 0) o1 ∧ o1.on (fun x4 => r = (TWeight.mk false 0 (TFacts.mk 0 []) x4 [])) (fun r_ => r = r_)) else (if a0.Tag = 5 then (((InR 0 a0.Parts.length)) ∧ ((InR 0 a1.Parts.length)) ∧ ((InR 0 a2.Parts.length)) ∧ ∃ t27_12 : TWeight, (self40 (rdl a0.Parts 0) (rdl a1.Parts 0) (rdl a2.Parts 0) t27_12) ∧ ((InR 1 a0.Parts.length)) ∧ ((InR 1 a1.Parts.length)) ∧ ((InR 1 a2.Parts.length)) ∧ ∃ t27_25 : TWeight, (self40 (rdl a0.Parts 1) (rdl a1.Parts 1) (rdl a2.Parts 1) t27_25) ∧ r = (TWeight.mk false 0 (TFacts.mk 0 []) [] [t27_12, t27_25])) else (r = (TWeight.mk false 0 (TFacts.mk 0 []) [] [])))))))
theorem r05_Either.stepD {self40 : TSpace → TWeight → TWeight → TWeight → Prop} {a0 : TSpace} {a1 : TWeight} {a2 : TWeight} (hs40 : ∀ z0_ z1_ z2_ r_, self40 z0_ z1_ z2_ r_ → D Try.prog X (.callH 40 [.agg (TSpace.lit z0_), .agg (TWeight.lit z1_), .agg (TWeight.lit z2_)] [] (.agg (TWeight.lit r_)) [])) {r : TWeight} (h : r05_Either.step self40 a0 a1 a2 r) : D Try.prog X (.callH 40 [.agg (TSpace.lit a0), .agg (TWeight.lit a1), .agg (TWeight.lit a2)] [] (.agg (TWeight.lit r)) []) := by
  unfold r05_Either.step at h
  refine .enter 94 0 fn40 rfl rfl rfl ?_
  refine .seq ?_
  refine .room 0 ?_
  refine .room 0 ?_
  refine .room 0 ?_
  refine .room 0 ?_
  refine .reg0 rfl (.op 0 rfl (bxP (s := 3) (cs := (TSpace.lit a0)) rfl ⟨rfl, by decide, rfl⟩ rfl) <| .op 1 rfl (bxP (s := 6) (cs := (TWeight.lit a1)) rfl ⟨rfl, by decide, rfl⟩ rfl) <| .op 2 rfl (bxP (s := 6) (cs := (TWeight.lit a2)) rfl ⟨rfl, by decide, rfl⟩ rfl) <| .op 3 rfl (alP (s := 6) ze48 ⟨rfl, by decide, rfl⟩ rfl) <| .nil0) ?_
  refine .seq ?_
  refine .seq ?_
  refine .reg0 rfl (.op 0 rfl (faP fa48_0 rfl) <| .op 0 rfl (ldP rfl sz4 ag4 rfl) <| .nil0) ?_
  by_cases c1 : a1.Zero = true
  · rw [if_pos c1] at h
    refine .condT rfl c1 ?_
    refine .seq ?_
    refine .reg0 rfl (.op 0 rfl (ldG rfl sz48 ag48 rfl) <| .op 0 rfl (stB (cs0 := [.val (.bool false), .val (.int .i64 0), .val (.int .u64 0), .val (.slice none 0 0), .val (.slice none 0 0), .val (.slice none 0 0)]) (cs := (TWeight.lit a2)) (cs1 := (TWeight.lit a2)) rfl rfl sz48 rfl ⟨Nat.le_of_ble_eq_true rfl, rfl⟩ rfl) <| .nil0) ?_
    replace h := h.symm
    subst h
    refine .keepL [] [(6, .cptr (TWeight.lit a2) 0)] [] (by decide) (by decide) ⟨cFixP rfl rfl (.cons (.free rfl rfl) <| .cons (.free rfl rfl) <| .cons (.free rfl rfl) <| .cons (.free rfl rfl) <| .cons (.free rfl rfl) <| .cons (.free rfl rfl) <| .nil), trivial⟩ trivial ?_
    exact .ret rfl
  · rw [if_neg c1] at h
    refine .condF rfl (Bool.eq_false_iff.mpr c1) ?_
    refine .skip ?_
    refine .seq ?_
    refine .seq ?_
    refine .reg0 rfl (.op 0 rfl (faP fa48_0 rfl) <| .op 0 rfl (ldP rfl sz4 ag4 rfl) <| .nil0) ?_
    by_cases c2 : a2.Zero = true
    · rw [if_pos c2] at h
      refine .condT rfl c2 ?_
      refine .seq ?_
      refine .reg0 rfl (.op 0 rfl (ldG rfl sz48 ag48 rfl) <| .op 0 rfl (stB (cs0 := [.val (.bool false), .val (.int .i64 0), .val (.int .u64 0), .val (.slice none 0 0), .val (.slice none 0 0), .val (.slice none 0 0)]) (cs := (TWeight.lit a1)) (cs1 := (TWeight.lit a1)) rfl rfl sz48 rfl ⟨Nat.le_of_ble_eq_true rfl, rfl⟩ rfl) <| .nil0) ?_
      replace h := h.symm
      subst h
      refine .keepL [] [(6, .cptr (TWeight.lit a1) 0)] [] (by decide) (by decide) ⟨cFixP rfl rfl (.cons (.free rfl rfl) <| .cons (.free rfl rfl) <| .cons (.free rfl rfl) <| .cons (.free rfl rfl) <| .cons (.free rfl rfl) <| .cons (.free rfl rfl) <| .nil), trivial⟩ trivial ?_
      exact .ret rfl
    · rw [if_neg c2] at h
      refine .condF rfl (Bool.eq_false_iff.mpr c2) ?_
      refine .skip ?_
      refine .seq ?_
      refine .room 0 ?_
      refine .reg0 rfl (.op 0 rfl (bldS (cs := [.val (.bool false), .val (.int .i64 0), .val (.int .u64 0), .val (.slice none 0 0), .val (.slice none 0 0), .val (.slice none 0 0)]) ze48 pl48 rfl rfl) <| .op 4 rfl (alP (s := 6) ze48 ⟨rfl, by decide, rfl⟩ rfl) <| .op 0 rfl (stB (cs0 := [.val (.bool false), .val (.int .i64 0), .val (.int .u64 0), .val (.slice none 0 0), .val (.slice none 0 0), .val (.slice none 0 0)]) (cs := [.val (.bool false), .val (.int .i64 0), .val (.int .u64 0), .val (.slice none 0 0), .val (.slice none 0 0), .val (.slice none 0 0)]) (cs1 := [.val (.bool false), .val (.int .i64 0), .val (.int .u64 0), .val (.slice none 0 0), .val (.slice none 0 0), .val (.slice none 0 0)]) rfl rfl sz48 rfl ⟨Nat.le_of_ble_eq_true rfl, rfl⟩ rfl) <| .nil0) ?_
      refine .seq ?_
      refine .seq ?_
      refine .reg0 rfl (.op 0 rfl (faP fa25_0 rfl) <| .op 0 rfl (ldP rfl sz22 ag22 rfl) <| .nil0) ?_
      refine .block ?_
      refine .seq ?_
      refine .reg0 rfl (.op 0 rfl (eqI rfl rfl) <| .op 0 rfl (asV rfl) <| .nil0) ?_
      by_cases c3 : a0.Tag = 2
      · rw [if_pos c3] at h
        refine .condT rfl (beq_iff_eq.mpr c3) ?_
        refine .reg0 rfl (.op 0 rfl (faP fa48_1 rfl) <| .op 0 rfl (ldP rfl sz3 ag3 rfl) <| .op 0 rfl (faP fa48_1 rfl) <| .op 0 rfl (ldP rfl sz3 ag3 rfl) <| .op 0 rfl (minI rfl rfl) <| .op 0 rfl (faP fa48_1 rfl) <| .op 0 rfl (stB (cs0 := [.val (.bool false), .val (.int .i64 0), .val (.int .u64 0), .val (.slice none 0 0), .val (.slice none 0 0), .val (.slice none 0 0)]) (cs := [.val (.int .i64 (if a2.Cost < a1.Cost then a2.Cost else a1.Cost))]) (cs1 := [.val (.bool false), .val (.int .i64 (if a2.Cost < a1.Cost then a2.Cost else a1.Cost)), .val (.int .u64 0), .val (.slice none 0 0), .val (.slice none 0 0), .val (.slice none 0 0)]) rfl rfl sz3 rfl ⟨Nat.le_of_ble_eq_true rfl, rfl⟩ rfl) <| .nil0) ?_
        refine .inBlock ?_
        refine .seq ?_
        refine .reg0 rfl (.op 0 rfl (ldG rfl sz48 ag48 rfl) <| .op 0 rfl (stB (cs0 := [.val (.bool false), .val (.int .i64 0), .val (.int .u64 0), .val (.slice none 0 0), .val (.slice none 0 0), .val (.slice none 0 0)]) (cs := [.val (.bool false), .val (.int .i64 (if a2.Cost < a1.Cost then a2.Cost else a1.Cost)), .val (.int .u64 0), .val (.slice none 0 0), .val (.slice none 0 0), .val (.slice none 0 0)]) (cs1 := [.val (.bool false), .val (.int .i64 (if a2.Cost < a1.Cost then a2.Cost else a1.Cost)), .val (.int .u64 0), .val (.slice none 0 0), .val (.slice none 0 0), .val (.slice none 0 0)]) rfl rfl sz48 rfl ⟨Nat.le_of_ble_eq_true rfl, rfl⟩ rfl) <| .nil0) ?_
        replace h := h.symm
        subst h
        refine .keepL [] [(6, .cptr [.val (.bool false), .val (.int .i64 (if a2.Cost < a1.Cost then a2.Cost else a1.Cost)), .val (.int .u64 0), .rows (([] : List Int).map (cInt .u64)), .rows (([] : List TCell).map TCell.cells), .rows (([] : List TWeight).map TWeight.cells)] 0)] [] (by decide) (by decide) ⟨cFixP rfl rfl (.cons (.free rfl rfl) <| .cons (.free rfl rfl) <| .cons (.free rfl rfl) <| .cons (.nil) <| .cons (.nil) <| .cons (.nil) <| .nil), trivial⟩ trivial ?_
        exact .ret rfl
      · rw [if_neg c3] at h
        refine .condF rfl (beq_eq_false_iff_ne.mpr c3) ?_
        refine .seq ?_
        refine .reg0 rfl (.op 0 rfl (eqI rfl rfl) <| .op 0 rfl (asV rfl) <| .nil0) ?_
        by_cases c4 : a0.Tag = 3
        · rw [if_pos c4] at h
          refine .condT rfl (beq_iff_eq.mpr c4) ?_
          obtain ⟨t12_6, g12_6, h⟩ := h
          refine .reg0 rfl (.op 0 rfl (faP fa25_1 rfl) <| .op 0 rfl (ldP rfl sz3 ag3 rfl) <| .op 0 rfl (faP fa48_2 rfl) <| .op 0 rfl (ldG rfl sz44 ag44 rfl) <| .op 0 rfl (faP fa48_2 rfl) <| .op 0 rfl (ldG rfl sz44 ag44 rfl) <| .callI rfl (callee_of rfl go55 rfl) (.pure rfl rfl (r03_Combine.D g12_6)) <| .op 0 rfl (mvT rfl) <| .op 0 rfl (exT rfl rfl) <| .op 0 rfl (exT rfl rfl) <| .op 0 rfl (faP fa48_2 rfl) <| .op 0 rfl (stB (cs0 := [.val (.bool false), .val (.int .i64 0), .val (.int .u64 0), .val (.slice none 0 0), .val (.slice none 0 0), .val (.slice none 0 0)]) (cs := (TFacts.lit t12_6.1)) (cs1 := [.val (.bool false), .val (.int .i64 0), .val (.int .u64 t12_6.1.Gen), .rows (t12_6.1.Rows.map (cInt .u64)), .val (.slice none 0 0), .val (.slice none 0 0)]) rfl rfl sz44 rfl ⟨Nat.le_of_ble_eq_true rfl, rfl⟩ rfl) <| .nil0) ?_
          refine .inBlock ?_
          refine .seq ?_
          refine .reg0 rfl (.op 0 rfl (ldG rfl sz48 ag48 rfl) <| .op 0 rfl (stB (cs0 := [.val (.bool false), .val (.int .i64 0), .val (.int .u64 0), .val (.slice none 0 0), .val (.slice none 0 0), .val (.slice none 0 0)]) (cs := [.val (.bool false), .val (.int .i64 0), .val (.int .u64 t12_6.1.Gen), .rows (t12_6.1.Rows.map (cInt .u64)), .val (.slice none 0 0), .val (.slice none 0 0)]) (cs1 := [.val (.bool false), .val (.int .i64 0), .val (.int .u64 t12_6.1.Gen), .rows (t12_6.1.Rows.map (cInt .u64)), .val (.slice none 0 0), .val (.slice none 0 0)]) rfl rfl sz48 rfl ⟨Nat.le_of_ble_eq_true rfl, rfl⟩ rfl) <| .nil0) ?_
          replace h := h.symm
          subst h
          refine .keepL [] [(6, .cptr [.val (.bool false), .val (.int .i64 0), .val (.int .u64 t12_6.1.Gen), .rows (t12_6.1.Rows.map (cInt .u64)), .rows (([] : List TCell).map TCell.cells), .rows (([] : List TWeight).map TWeight.cells)] 0)] [] (by decide) (by decide) ⟨cFixP rfl rfl (.cons (.free rfl rfl) <| .cons (.free rfl rfl) <| .cons (.free rfl rfl) <| .cons (.free rfl rfl) <| .cons (.nil) <| .cons (.nil) <| .nil), trivial⟩ trivial ?_
          exact .ret rfl
        · rw [if_neg c4] at h
          refine .condF rfl (beq_eq_false_iff_ne.mpr c4) ?_
          refine .seq ?_
          refine .reg0 rfl (.op 0 rfl (eqI rfl rfl) <| .op 0 rfl (asV rfl) <| .nil0) ?_
          by_cases c5 : a0.Tag = 4
          · rw [if_pos c5] at h
            refine .condT rfl (beq_iff_eq.mpr c5) ?_
            refine .seq ?_
            refine .reg0 rfl (.op 0 rfl (asV rfl) <| .nil0) ?_
            refine .block ?_
            refine .room 3 ?_
            refine .keepL [0, 1, 2, 3, 4, 5] [(3, .ptr 0 1 3 0 0), (4, .ptr 1 1 6 0 0), (5, .ptr 2 1 6 0 0), (6, .ptr 3 1 6 0 0), (7, .ptr 4 1 6 0 0), (8, .val (.int .i64 0))] [⟨3, [(TSpace.lit a0)], 0, none⟩, ⟨6, [(TWeight.lit a1)], 0, none⟩, ⟨6, [(TWeight.lit a2)], 0, none⟩, ⟨6, [[.val (.bool false), .val (.int .i64 0), .val (.int .u64 0), .val (.slice none 0 0), .val (.slice none 0 0), .val (.slice none 0 0)]], 0, none⟩, ⟨6, [[.val (.bool false), .val (.int .i64 0), .val (.int .u64 0), .val (.slice none 0 0), .own 5 0, .val (.slice none 0 0)]], 0, none⟩, ⟨3, [].map TCell.cells, 0, none⟩] (by decide) (by decide) ⟨.ptr rfl, .ptr rfl, .ptr rfl, .ptr rfl, .ptr rfl, .free rfl rfl, trivial⟩ ⟨⟨_, rfl, bcBox (all2_free rfl)⟩, ⟨_, rfl, bcBox (all2_free rfl)⟩, ⟨_, rfl, bcBox (all2_free rfl)⟩, ⟨_, rfl, bcBox (all2_free rfl)⟩, ⟨_, rfl, bcBox (.cons (.free rfl rfl) <| .cons (.free rfl rfl) <| .cons (.free rfl rfl) <| .cons (.free rfl rfl) <| .cons (.nilOwn) <| .cons (.free rfl rfl) <| .nil)⟩, ⟨_, rfl, (bcRow (l := []) sl45 (Nat.le_refl _) rfl)⟩, trivial⟩ ?_
            obtain ⟨o1, hL1, h⟩ := h
            refine .loopB (r05_Either.b1 a0 a1 a2) (fun (x2, x3) => listEnv [(3, .ptr 0 1 3 0 0), (4, .ptr 1 1 6 0 0), (5, .ptr 2 1 6 0 0), (6, .ptr 3 1 6 0 0), (7, .ptr 4 1 6 0 0), (8, .val (.int .i64 x3))]) (fun (x2, x3) => [⟨3, [(TSpace.lit a0)], 0, none⟩, ⟨6, [(TWeight.lit a1)], 0, none⟩, ⟨6, [(TWeight.lit a2)], 0, none⟩, ⟨6, [[.val (.bool false), .val (.int .i64 0), .val (.int .u64 0), .val (.slice none 0 0), .val (.slice none 0 0), .val (.slice none 0 0)]], 0, none⟩, ⟨6, [[.val (.bool false), .val (.int .i64 0), .val (.int .u64 0), .val (.slice none 0 0), .own 5 x2.length, .val (.slice none 0 0)]], 0, none⟩, ⟨3, x2.map TCell.cells, 0, none⟩]) (fun x4 => listEnv [(6, .ptr 0 1 6 0 0), (7, .ptr 1 1 6 0 0)]) (fun x4 => [⟨6, [[.val (.bool false), .val (.int .i64 0), .val (.int .u64 0), .val (.slice none 0 0), .val (.slice none 0 0), .val (.slice none 0 0)]], 0, none⟩, ⟨6, [[.val (.bool false), .val (.int .i64 0), .val (.int .u64 0), .val (.slice none 0 0), .own 2 x4.length, .val (.slice none 0 0)]], 0, none⟩, ⟨3, x4.map TCell.cells, 0, none⟩]) hL1 (fun r_ => r = r_) ?_ ?_ ?_
            · rintro x4 rfl
              try dsimp only [Fin.on] at h
              refine .inBlock ?_
              refine .seq ?_
              refine .reg0 rfl (.op 0 rfl (ldG rfl sz48 ag48 rfl) <| .op 0 rfl (stB (cs0 := [.val (.bool false), .val (.int .i64 0), .val (.int .u64 0), .val (.slice none 0 0), .val (.slice none 0 0), .val (.slice none 0 0)]) (cs := [.val (.bool false), .val (.int .i64 0), .val (.int .u64 0), .val (.slice none 0 0), .own 2 x4.length, .val (.slice none 0 0)]) (cs1 := [.val (.bool false), .val (.int .i64 0), .val (.int .u64 0), .val (.slice none 0 0), .own 2 x4.length, .val (.slice none 0 0)]) rfl rfl sz48 rfl ⟨Nat.le_of_ble_eq_true rfl, rfl⟩ rfl) <| .nil0) ?_
              replace h := h.symm
              subst h
              refine .keepL [] [(6, .cptr [.val (.bool false), .val (.int .i64 0), .val (.int .u64 0), .rows (([] : List Int).map (cInt .u64)), .rows (x4.map TCell.cells), .rows (([] : List TWeight).map TWeight.cells)] 0)] [] (by decide) (by decide) ⟨cFixP rfl rfl (.cons (.free rfl rfl) <| .cons (.free rfl rfl) <| .cons (.free rfl rfl) <| .cons (.nil) <| .cons (cFixO (l := x4) sl45 rfl rfl rfl rfl) <| .cons (.nil) <| .nil), trivial⟩ trivial ?_
              exact .ret rfl
            · rintro r_ rfl
              exact h
            · rintro ⟨x2, x3⟩ z1 h hn1 hx1 hr1
              dsimp only [r05_Either.b1] at h
              refine .seq ?_
              refine .seq ?_
              refine .reg0 rfl (.op 0 rfl (mvV rfl) <| .op 0 rfl (faP fa25_1 rfl) <| .op 0 rfl (ldP rfl sz3 ag3 rfl) <| .op 0 rfl (ltI rfl rfl) <| .nil0) ?_
              by_cases c8 : x3 < a0.Dim
              · rw [if_pos c8] at h
                refine .condT rfl (decide_eq_true c8) ?_
                refine .skip ?_
                refine .seq ?_
                refine .block ?_
                obtain ⟨g23_5, h⟩ := h
                obtain ⟨g23_10, h⟩ := h
                obtain ⟨t23_12, g23_12, h⟩ := h
                obtain ⟨g23_14, h⟩ := h
                refine .room 0 ?_
                refine .room 0 ?_
                refine .reg1 (e1 := listEnv [(3, .ptr 0 1 3 0 0), (4, .ptr 1 1 6 0 0), (5, .ptr 2 1 6 0 0), (6, .ptr 3 1 6 0 0), (7, .ptr 4 1 6 0 0), (8, .val (.int .i64 x3))]) (H1 := [⟨3, [(TSpace.lit a0)], 0, none⟩, ⟨6, [(TWeight.lit a1)], 0, none⟩, ⟨6, [(TWeight.lit a2)], 0, none⟩, ⟨6, [[.val (.bool false), .val (.int .i64 0), .val (.int .u64 0), .val (.slice none 0 0), .val (.slice none 0 0), .val (.slice none 0 0)]], 0, none⟩, ⟨6, [[.val (.bool false), .val (.int .i64 0), .val (.int .u64 0), .val (.slice none 0 0), .own 5 ((x2 ++ [t23_12]).length), .val (.slice none 0 0)]], 0, none⟩, ⟨3, (x2 ++ [t23_12]).map TCell.cells, 0, none⟩, ⟨3, [t23_12].map TCell.cells, 0, none⟩, Blk.hole]) rfl ?_ ?_
                · exact .drawM [(15, 62, .ptr 4 1 6 0 4), (14, 61, .own 5 ((x2 ++ [t23_12]).length)), (13, 60, .own 6 ([t23_12].length)), (12, 59, .agg (TCell.lit t23_12)), (11, 58, .agg (TCell.lit (rdl a2.Cells x3))), (10, 57, .cptr (TCell.lit (rdl a2.Cells x3)) 0), (9, 56, .val (.int .i64 x3)), (8, 55, .rows (a2.Cells.map TCell.cells)), (7, 54, .ptr 2 1 6 0 4), (6, 53, .agg (TCell.lit (rdl a1.Cells x3))), (5, 52, .cptr (TCell.lit (rdl a1.Cells x3)) 0), (4, 51, .val (.int .i64 x3)), (3, 50, .rows (a1.Cells.map TCell.cells)), (2, 49, .ptr 1 1 6 0 4), (1, 48, .own 5 x2.length), (0, 47, .ptr 4 1 6 0 4)] [(16, 4, ⟨6, [[.val (.bool false), .val (.int .i64 0), .val (.int .u64 0), .val (.slice none 0 0), .own 5 ((x2 ++ [t23_12]).length), .val (.slice none 0 0)]], 0, none⟩), (14, 5, ⟨3, (x2 ++ [t23_12]).map TCell.cells, 0, none⟩), (13, 6, ⟨3, [t23_12].map TCell.cells, 0, none⟩)] [[], [0], [], [2], [], [3, 2, 4], [5, 3, 2, 4], [], [7], [], [8, 7, 9], [10, 8, 7, 9], [6, 5, 3, 2, 4, 11, 10, 8, 7, 9], [12, 6, 5, 3, 2, 4, 11, 10, 8, 7, 9], [1, 0, 13, 12, 6, 5, 3, 2, 4, 11, 10, 8, 7, 9], [0, 1, 2, 3, 4, 5, 6, 7, 8, 9, 10, 11, 12, 13, 14], [15, 0, 1, 2, 3, 4, 5, 6, 7, 8, 9, 10, 11, 12, 13, 14]] (by rfl) (by rfl) (by rfl) (by exact ⟨fun S hS hD hn => .one 0 hS hD hn rfl rfl (faP fa48_3 rfl) rfl rfl rfl, fun S hS hD hn => .one 0 hS hD hn rfl rfl (ldP rfl sz45 ag45 rfl) rfl rfl rfl, fun S hS hD hn => .one 0 hS hD hn rfl rfl (faP fa48_3 rfl) rfl rfl rfl, fun S hS hD hn => .one 0 hS hD hn rfl rfl (ldP rfl sz45 ag45 rfl) rfl rfl rfl, fun S hS hD hn => .one 0 hS hD hn rfl rfl (mvV rfl) rfl rfl rfl, fun S hS hD hn => .one 0 hS hD hn rfl rfl (ixR (l := a1.Cells) (lit := TCell.lit) sl45 rfl rfl (fun _ => rfl) g23_5.1 g23_5.2) rfl rfl rfl, fun S hS hD hn => .one 0 hS hD hn rfl rfl (ldCG rfl sz72 ag72 rfl) rfl rfl rfl, fun S hS hD hn => .one 0 hS hD hn rfl rfl (faP fa48_3 rfl) rfl rfl rfl, fun S hS hD hn => .one 0 hS hD hn rfl rfl (ldP rfl sz45 ag45 rfl) rfl rfl rfl, fun S hS hD hn => .one 0 hS hD hn rfl rfl (mvV rfl) rfl rfl rfl, fun S hS hD hn => .one 0 hS hD hn rfl rfl (ixR (l := a2.Cells) (lit := TCell.lit) sl45 rfl rfl (fun _ => rfl) g23_10.1 g23_10.2) rfl rfl rfl, fun S hS hD hn => .one 0 hS hD hn rfl rfl (ldCG rfl sz72 ag72 rfl) rfl rfl rfl, fun S hS hD hn => .oneI hS hD hn rfl rfl (callee_of rfl go56 rfl) (.pure rfl rfl (r05_Joined.D g23_12)) rfl rfl rfl, fun S hS hD hn => .one 6 hS hD hn rfl rfl (bldL (s := 3) (cs := [.val (.int .u64 t23_12.From), .val (.int .i64 t23_12.Kind), .val (.int .i64 t23_12.K)]) un45 sz72 ze72 ⟨by decide, rfl, by decide⟩ rfl rfl rfl rfl) rfl rfl rfl, fun S hS hD hn => .one 0 hS hD hn rfl rfl (ap1 (l := x2) t23_12 sl45 rfl rfl rfl (Nat.zero_le _) (elems_own (l := [t23_12]) rfl rfl) g23_14) rfl rfl rfl, fun S hS hD hn => .one 0 hS hD hn rfl rfl (faP fa48_3 rfl) rfl rfl rfl, fun S hS hD hn => .one0 0 rfl rfl (stB (cs0 := [.val (.bool false), .val (.int .i64 0), .val (.int .u64 0), .val (.slice none 0 0), .own 5 x2.length, .val (.slice none 0 0)]) (cs := [.own 5 ((x2 ++ [t23_12]).length)]) (cs1 := [.val (.bool false), .val (.int .i64 0), .val (.int .u64 0), .val (.slice none 0 0), .own 5 ((x2 ++ [t23_12]).length), .val (.slice none 0 0)]) rfl rfl sz45 rfl ⟨Nat.le_of_ble_eq_true rfl, rfl⟩ rfl) (drawE_other _ _ _ _ rfl) rfl, trivial⟩) _ (by exact ⟨.ptr rfl, .ptr rfl, .ptr rfl, .ptr rfl, .ptr rfl, .free rfl rfl, trivial⟩) (by rfl)
                refine .inBlock ?_
                refine .reg0 rfl (.op 0 rfl (mvV rfl) <| .op 0 rfl (addI rfl rfl) <| .op 0 rfl (asV rfl) <| .nil0) ?_
                refine .keepL [0, 1, 2, 3, 4, 5] [(3, .ptr 0 1 3 0 0), (4, .ptr 1 1 6 0 0), (5, .ptr 2 1 6 0 0), (6, .ptr 3 1 6 0 0), (7, .ptr 4 1 6 0 0), (8, .val (.int .i64 (IntKind.i64.wrap (x3 + 1))))] [⟨3, [(TSpace.lit a0)], 0, none⟩, ⟨6, [(TWeight.lit a1)], 0, none⟩, ⟨6, [(TWeight.lit a2)], 0, none⟩, ⟨6, [[.val (.bool false), .val (.int .i64 0), .val (.int .u64 0), .val (.slice none 0 0), .val (.slice none 0 0), .val (.slice none 0 0)]], 0, none⟩, ⟨6, [[.val (.bool false), .val (.int .i64 0), .val (.int .u64 0), .val (.slice none 0 0), .own 5 ((x2 ++ [t23_12]).length), .val (.slice none 0 0)]], 0, none⟩, ⟨3, (x2 ++ [t23_12]).map TCell.cells, 0, none⟩] (by decide) (by decide) ⟨.ptr rfl, .ptr rfl, .ptr rfl, .ptr rfl, .ptr rfl, .free rfl rfl, trivial⟩ ⟨⟨_, rfl, bcBox (all2_free rfl)⟩, ⟨_, rfl, bcBox (all2_free rfl)⟩, ⟨_, rfl, bcBox (all2_free rfl)⟩, ⟨_, rfl, bcBox (all2_free rfl)⟩, ⟨_, rfl, bcBox (.cons (.free rfl rfl) <| .cons (.free rfl rfl) <| .cons (.free rfl rfl) <| .cons (.free rfl rfl) <| .cons (.own rfl) <| .cons (.free rfl rfl) <| .nil)⟩, ⟨_, rfl, bcRow (l := (x2 ++ [t23_12])) sl45 (Nat.le_refl _) rfl⟩, trivial⟩ ?_
                exact hn1 _ h
              · rw [if_neg c8] at h
                refine .condF rfl (decide_eq_false c8) ?_
                refine .exit rfl ?_
                refine .keepL [3, 4, 5] [(6, .ptr 0 1 6 0 0), (7, .ptr 1 1 6 0 0)] [⟨6, [[.val (.bool false), .val (.int .i64 0), .val (.int .u64 0), .val (.slice none 0 0), .val (.slice none 0 0), .val (.slice none 0 0)]], 0, none⟩, ⟨6, [[.val (.bool false), .val (.int .i64 0), .val (.int .u64 0), .val (.slice none 0 0), .own 2 x2.length, .val (.slice none 0 0)]], 0, none⟩, ⟨3, x2.map TCell.cells, 0, none⟩] (by decide) (by decide) ⟨.ptr rfl, .ptr rfl, trivial⟩ ⟨⟨_, rfl, bcBox (all2_free rfl)⟩, ⟨_, rfl, bcBox (.cons (.free rfl rfl) <| .cons (.free rfl rfl) <| .cons (.free rfl rfl) <| .cons (.free rfl rfl) <| .cons (.own rfl) <| .cons (.free rfl rfl) <| .nil)⟩, ⟨_, rfl, bcRow (l := x2) sl45 (Nat.le_refl _) rfl⟩, trivial⟩ ?_
                exact hx1 _ h
          · rw [if_neg c5] at h
            refine .condF rfl (beq_eq_false_iff_ne.mpr c5) ?_
            refine .seq ?_
            refine .reg0 rfl (.op 0 rfl (eqI rfl rfl) <| .op 0 rfl (asV rfl) <| .nil0) ?_
            by_cases c9 : a0.Tag = 5
            · rw [if_pos c9] at h
              refine .condT rfl (beq_iff_eq.mpr c9) ?_
              obtain ⟨g27_2, h⟩ := h
              obtain ⟨g27_6, h⟩ := h
              obtain ⟨g27_10, h⟩ := h
              obtain ⟨t27_12, g27_12, h⟩ := h
              obtain ⟨g27_15, h⟩ := h
              obtain ⟨g27_19, h⟩ := h
              obtain ⟨g27_23, h⟩ := h
              obtain ⟨t27_25, g27_25, h⟩ := h
              refine .room 0 ?_
              refine .reg1 (e1 := listEnv [(6, .ptr 3 1 6 0 0), (7, .ptr 4 1 6 0 0)]) (H1 := [⟨3, [(TSpace.lit a0)], 0, none⟩, ⟨6, [(TWeight.lit a1)], 0, none⟩, ⟨6, [(TWeight.lit a2)], 0, none⟩, ⟨6, [[.val (.bool false), .val (.int .i64 0), .val (.int .u64 0), .val (.slice none 0 0), .val (.slice none 0 0), .val (.slice none 0 0)]], 0, none⟩, ⟨6, [[.val (.bool false), .val (.int .i64 0), .val (.int .u64 0), .val (.slice none 0 0), .val (.slice none 0 0), .own 5 ([t27_12, t27_25].length)]], 0, none⟩, ⟨6, [t27_12, t27_25].map TWeight.cells, 0, none⟩]) rfl ?_ ?_
              · exact .drawM [(27, 92, .ptr 4 1 6 0 5), (26, 91, .own 5 ([t27_12, t27_25].length)), (25, 90, .agg (TWeight.lit t27_25)), (24, 89, .agg (TWeight.lit (rdl a2.Parts 1))), (23, 88, .cptr (TWeight.lit (rdl a2.Parts 1)) 0), (22, 87, .rows (a2.Parts.map TWeight.cells)), (21, 86, .ptr 2 1 6 0 5), (20, 85, .agg (TWeight.lit (rdl a1.Parts 1))), (19, 84, .cptr (TWeight.lit (rdl a1.Parts 1)) 0), (18, 83, .rows (a1.Parts.map TWeight.cells)), (17, 82, .ptr 1 1 6 0 5), (16, 81, .agg (TSpace.lit (rdl a0.Parts 1))), (15, 80, .cptr (TSpace.lit (rdl a0.Parts 1)) 0), (14, 79, .rows (a0.Parts.map TSpace.cells)), (13, 78, .ptr 0 1 3 0 2), (12, 77, .agg (TWeight.lit t27_12)), (11, 76, .agg (TWeight.lit (rdl a2.Parts 0))), (10, 75, .cptr (TWeight.lit (rdl a2.Parts 0)) 0), (9, 74, .rows (a2.Parts.map TWeight.cells)), (8, 73, .ptr 2 1 6 0 5), (7, 72, .agg (TWeight.lit (rdl a1.Parts 0))), (6, 71, .cptr (TWeight.lit (rdl a1.Parts 0)) 0), (5, 70, .rows (a1.Parts.map TWeight.cells)), (4, 69, .ptr 1 1 6 0 5), (3, 68, .agg (TSpace.lit (rdl a0.Parts 0))), (2, 67, .cptr (TSpace.lit (rdl a0.Parts 0)) 0), (1, 66, .rows (a0.Parts.map TSpace.cells)), (0, 65, .ptr 0 1 3 0 2)] [(28, 4, ⟨6, [[.val (.bool false), .val (.int .i64 0), .val (.int .u64 0), .val (.slice none 0 0), .val (.slice none 0 0), .own 5 ([t27_12, t27_25].length)]], 0, none⟩), (26, 5, ⟨6, [t27_12, t27_25].map TWeight.cells, 0, none⟩)] [[], [0], [1, 0], [2, 1, 0], [], [4], [5, 4], [6, 5, 4], [], [8], [9, 8], [10, 9, 8], [3, 2, 1, 0, 7, 6, 5, 4, 11, 10, 9, 8], [], [13], [14, 13], [15, 14, 13], [], [17], [18, 17], [19, 18, 17], [], [21], [22, 21], [23, 22, 21], [16, 15, 14, 13, 20, 19, 18, 17, 24, 23, 22, 21, 12, 3, 2, 1, 0, 7, 6, 5, 4, 11, 10, 9, 8], [12, 3, 2, 1, 0, 7, 6, 5, 4, 11, 10, 9, 8, 25, 16, 15, 14, 13, 20, 19, 18, 17, 24, 23, 22, 21], [0, 1, 2, 3, 4, 5, 6, 7, 8, 9, 10, 11, 12, 13, 14, 15, 16, 17, 18, 19, 20, 21, 22, 23, 24, 25, 26], [27, 0, 1, 2, 3, 4, 5, 6, 7, 8, 9, 10, 11, 12, 13, 14, 15, 16, 17, 18, 19, 20, 21, 22, 23, 24, 25, 26]] (by rfl) (by rfl) (by rfl) (by exact ⟨fun S hS hD hn => .one 0 hS hD hn rfl rfl (faP fa25_2 rfl) rfl rfl rfl, fun S hS hD hn => .one 0 hS hD hn rfl rfl (ldP rfl sz23 ag23 rfl) rfl rfl rfl, fun S hS hD hn => .one 0 hS hD hn rfl rfl (ixR (l := a0.Parts) (lit := TSpace.lit) sl23 rfl rfl TSpace.cells_lit g27_2.1 g27_2.2) rfl rfl rfl, fun S hS hD hn => .one 0 hS hD hn rfl rfl (ldCG rfl sz25 ag25 rfl) rfl rfl rfl, fun S hS hD hn => .one 0 hS hD hn rfl rfl (faP fa48_4 rfl) rfl rfl rfl, fun S hS hD hn => .one 0 hS hD hn rfl rfl (ldP rfl sz46 ag46 rfl) rfl rfl rfl, fun S hS hD hn => .one 0 hS hD hn rfl rfl (ixR (l := a1.Parts) (lit := TWeight.lit) sl46 rfl rfl TWeight.cells_lit g27_6.1 g27_6.2) rfl rfl rfl, fun S hS hD hn => .one 0 hS hD hn rfl rfl (ldCG rfl sz48 ag48 rfl) rfl rfl rfl, fun S hS hD hn => .one 0 hS hD hn rfl rfl (faP fa48_4 rfl) rfl rfl rfl, fun S hS hD hn => .one 0 hS hD hn rfl rfl (ldP rfl sz46 ag46 rfl) rfl rfl rfl, fun S hS hD hn => .one 0 hS hD hn rfl rfl (ixR (l := a2.Parts) (lit := TWeight.lit) sl46 rfl rfl TWeight.cells_lit g27_10.1 g27_10.2) rfl rfl rfl, fun S hS hD hn => .one 0 hS hD hn rfl rfl (ldCG rfl sz48 ag48 rfl) rfl rfl rfl, fun S hS hD hn => .oneI hS hD hn rfl rfl (callee_of rfl go40 rfl) (.pure rfl rfl (hs40 _ _ _ _ g27_12)) rfl rfl rfl, fun S hS hD hn => .one 0 hS hD hn rfl rfl (faP fa25_2 rfl) rfl rfl rfl, fun S hS hD hn => .one 0 hS hD hn rfl rfl (ldP rfl sz23 ag23 rfl) rfl rfl rfl, fun S hS hD hn => .one 0 hS hD hn rfl rfl (ixR (l := a0.Parts) (lit := TSpace.lit) sl23 rfl rfl TSpace.cells_lit g27_15.1 g27_15.2) rfl rfl rfl, fun S hS hD hn => .one 0 hS hD hn rfl rfl (ldCG rfl sz25 ag25 rfl) rfl rfl rfl, fun S hS hD hn => .one 0 hS hD hn rfl rfl (faP fa48_4 rfl) rfl rfl rfl, fun S hS hD hn => .one 0 hS hD hn rfl rfl (ldP rfl sz46 ag46 rfl) rfl rfl rfl, fun S hS hD hn => .one 0 hS hD hn rfl rfl (ixR (l := a1.Parts) (lit := TWeight.lit) sl46 rfl rfl TWeight.cells_lit g27_19.1 g27_19.2) rfl rfl rfl, fun S hS hD hn => .one 0 hS hD hn rfl rfl (ldCG rfl sz48 ag48 rfl) rfl rfl rfl, fun S hS hD hn => .one 0 hS hD hn rfl rfl (faP fa48_4 rfl) rfl rfl rfl, fun S hS hD hn => .one 0 hS hD hn rfl rfl (ldP rfl sz46 ag46 rfl) rfl rfl rfl, fun S hS hD hn => .one 0 hS hD hn rfl rfl (ixR (l := a2.Parts) (lit := TWeight.lit) sl46 rfl rfl TWeight.cells_lit g27_23.1 g27_23.2) rfl rfl rfl, fun S hS hD hn => .one 0 hS hD hn rfl rfl (ldCG rfl sz48 ag48 rfl) rfl rfl rfl, fun S hS hD hn => .oneI hS hD hn rfl rfl (callee_of rfl go40 rfl) (.pure rfl rfl (hs40 _ _ _ _ g27_25)) rfl rfl rfl, fun S hS hD hn => .one 5 hS hD hn rfl rfl (bldT (s := 6) (cs := [.val (.bool t27_12.Zero), .val (.int .i64 t27_12.Cost), .val (.int .u64 t27_12.Facts.Gen), .rows (t27_12.Facts.Rows.map (cInt .u64)), .rows (t27_12.Cells.map TCell.cells), .rows (t27_12.Parts.map TWeight.cells), .val (.bool t27_25.Zero), .val (.int .i64 t27_25.Cost), .val (.int .u64 t27_25.Facts.Gen), .rows (t27_25.Facts.Rows.map (cInt .u64)), .rows (t27_25.Cells.map TCell.cells), .rows (t27_25.Parts.map TWeight.cells)]) (cf := TWeight.cells) [t27_12, t27_25] un46 sz48 ze48 ⟨by decide, rfl, by decide⟩ rfl rfl rfl (by simp only [List.map, TWeight.cells_lit]; rfl) rfl) rfl rfl rfl, fun S hS hD hn => .one 0 hS hD hn rfl rfl (faP fa48_4 rfl) rfl rfl rfl, fun S hS hD hn => .one0 0 rfl rfl (stB (cs0 := [.val (.bool false), .val (.int .i64 0), .val (.int .u64 0), .val (.slice none 0 0), .val (.slice none 0 0), .val (.slice none 0 0)]) (cs := [.own 5 ([t27_12, t27_25].length)]) (cs1 := [.val (.bool false), .val (.int .i64 0), .val (.int .u64 0), .val (.slice none 0 0), .val (.slice none 0 0), .own 5 ([t27_12, t27_25].length)]) rfl rfl sz46 rfl ⟨Nat.le_of_ble_eq_true rfl, rfl⟩ rfl) (drawE_other _ _ _ _ rfl) rfl, trivial⟩) _ (by exact ⟨.ptr rfl, .ptr rfl, trivial⟩) (by rfl)
              refine .inBlock ?_
              refine .seq ?_
              refine .reg0 rfl (.op 0 rfl (ldG rfl sz48 ag48 rfl) <| .op 0 rfl (stB (cs0 := [.val (.bool false), .val (.int .i64 0), .val (.int .u64 0), .val (.slice none 0 0), .val (.slice none 0 0), .val (.slice none 0 0)]) (cs := [.val (.bool false), .val (.int .i64 0), .val (.int .u64 0), .val (.slice none 0 0), .val (.slice none 0 0), .own 5 ([t27_12, t27_25].length)]) (cs1 := [.val (.bool false), .val (.int .i64 0), .val (.int .u64 0), .val (.slice none 0 0), .val (.slice none 0 0), .own 5 ([t27_12, t27_25].length)]) rfl rfl sz48 rfl ⟨Nat.le_of_ble_eq_true rfl, rfl⟩ rfl) <| .nil0) ?_
              replace h := h.symm
              subst h
              refine .keepL [] [(6, .cptr [.val (.bool false), .val (.int .i64 0), .val (.int .u64 0), .rows (([] : List Int).map (cInt .u64)), .rows (([] : List TCell).map TCell.cells), .rows ([t27_12, t27_25].map TWeight.cells)] 0)] [] (by decide) (by decide) ⟨cFixP rfl rfl (.cons (.free rfl rfl) <| .cons (.free rfl rfl) <| .cons (.free rfl rfl) <| .cons (.nil) <| .cons (.nil) <| .cons (cFixO (l := [t27_12, t27_25]) sl46 rfl rfl rfl rfl) <| .nil), trivial⟩ trivial ?_
              exact .ret rfl
            · rw [if_neg c9] at h
              refine .condF rfl (beq_eq_false_iff_ne.mpr c9) ?_
              refine .skip ?_
              refine .inBlock ?_
              refine .seq ?_
              refine .reg0 rfl (.op 0 rfl (ldG rfl sz48 ag48 rfl) <| .op 0 rfl (stB (cs0 := [.val (.bool false), .val (.int .i64 0), .val (.int .u64 0), .val (.slice none 0 0), .val (.slice none 0 0), .val (.slice none 0 0)]) (cs := [.val (.bool false), .val (.int .i64 0), .val (.int .u64 0), .val (.slice none 0 0), .val (.slice none 0 0), .val (.slice none 0 0)]) (cs1 := [.val (.bool false), .val (.int .i64 0), .val (.int .u64 0), .val (.slice none 0 0), .val (.slice none 0 0), .val (.slice none 0 0)]) rfl rfl sz48 rfl ⟨Nat.le_of_ble_eq_true rfl, rfl⟩ rfl) <| .nil0) ?_
              replace h := h.symm
              subst h
              refine .keepL [] [(6, .cptr [.val (.bool false), .val (.int .i64 0), .val (.int .u64 0), .rows (([] : List Int).map (cInt .u64)), .rows (([] : List TCell).map TCell.cells), .rows (([] : List TWeight).map TWeight.cells)] 0)] [] (by decide) (by decide) ⟨cFixP rfl rfl (.cons (.free rfl rfl) <| .cons (.free rfl rfl) <| .cons (.free rfl rfl) <| .cons (.nil) <| .cons (.nil) <| .cons (.nil) <| .nil), trivial⟩ trivial ?_
              exact .ret rfl
def r05_Either.fN : Nat → TSpace → TWeight → TWeight → TWeight → Prop
  | 0 => fun _ _ _ _ => False
  | n + 1 => r05_Either.step (r05_Either.fN n)
theorem r05_Either.ND : ∀ (n : Nat) {a0 : TSpace} {a1 : TWeight} {a2 : TWeight} {r : TWeight} (h : r05_Either.fN n a0 a1 a2 r), D Try.prog X (.callH 40 [.agg (TSpace.lit a0), .agg (TWeight.lit a1), .agg (TWeight.lit a2)] [] (.agg (TWeight.lit r)) [])
  | 0, _, _, _, _, h => h.elim
  | n + 1, _, _, _, _, h => r05_Either.stepD (fun _ _ _ _ h => r05_Either.ND n h) h
def r05_Either.f (a0 : TSpace) (a1 : TWeight) (a2 : TWeight) (r : TWeight) : Prop := ∃ n, r05_Either.fN n a0 a1 a2 r
theorem r05_Either.D {a0 : TSpace} {a1 : TWeight} {a2 : TWeight} {r : TWeight} (h : r05_Either.f a0 a1 a2 r) : D Try.prog X (.callH 40 [.agg (TSpace.lit a0), .agg (TWeight.lit a1), .agg (TWeight.lit a2)] [] (.agg (TWeight.lit r)) []) := by obtain ⟨n, h⟩ := h; exact r05_Either.ND n h
def r10_still.j1 (x46 : Int) : ((List TWeight) × Bool) → (Rnd (((List TWeight) × Bool × Int)) (((List TWeight) × Bool)) ((List TWeight))) → Prop := fun (x57, x58) z2 => z2 = .next (x57, x58, (IntKind.i64.wrap (x46 + 1)))
def r10_still.j2 (x46 : Int) : ((List TWeight) × Bool) → (Rnd (((List TWeight) × Bool × Int)) (((List TWeight) × Bool)) ((List TWeight))) → Prop := fun (x59, x60) z2 => r10_still.j1 x46 (x59, x60) z2
def r10_still.b2 (a0 : TAuto) (a1 : Bool) (a2 : Bool) : ((List TWeight) × Bool × Int) → Rnd (((List TWeight) × Bool × Int)) (((List TWeight) × Bool)) ((List TWeight)) → Prop := fun (x44, x45, x46) z2 => if x46 < (a0.Trans.length : Int) then (((InR x46 a0.Trans.length)) ∧ if ((decide ((rdl a0.Trans x46).Sym ≥ 0)) && (!a2)) = true then (r10_still.j1 x46 (x44, x45) z2) else (((InR ((rdl a0.Trans x46).From) x44.length)) ∧ ((InR ((rdl a0.Trans x46).To) x44.length)) ∧ ∃ t132_17 : TWeight, (r10_Ext.f a0.Space a1 ((rdl a0.Trans x46).W) (rdl x44 ((rdl a0.Trans x46).To)) t132_17) ∧ ∃ t132_18 : TWeight, (r05_Either.f a0.Space (rdl x44 ((rdl a0.Trans x46).From)) t132_17 t132_18) ∧ ((InR ((rdl a0.Trans x46).From) x44.length)) ∧ ∃ t133_6 : Bool, (r05_Same.f t132_18 (rdl x44 ((rdl a0.Trans x46).From)) t133_6) ∧ if t133_6 = true then (r10_still.j2 x46 (x44, x45) z2) else (((InR ((rdl a0.Trans x46).From) x44.length)) ∧ r10_still.j2 x46 ((setl x44 ((rdl a0.Trans x46).From) t132_18), true) z2))) else (z2 = .exit (x44, x45))
def r10_still.b1 (a0 : TAuto) (a1 : Bool) (a2 : Bool) : ((List TWeight) × Bool) → Rnd (((List TWeight) × Bool)) ((List TWeight)) ((List TWeight)) → Prop := fun (x18, x19) z1 => if x19 = true then (∃ o2 : Fin (((List TWeight) × Bool)) ((List TWeight)), Loop (r10_still.b2 a0 a1 a2) (x18, false, 0) o2 ∧ o2.on (fun (x53, x54) => z1 = .next (x53, x54)) (fun r_ => z1 = .ret r_)) else (z1 = .exit x18)
def r10_still.f (a0 : TAuto) (a1 : Bool) (a2 : Bool) (a3 : List TWeight) (r : (List TWeight)) : Prop :=
  ∃ o1 : Fin ((List TWeight)) ((List TWeight)), Loop (r10_still.b1 a0 a1 a2) (a3, true) o1 ∧ o1.on (fun x37 => r = x37) (fun r_ => r = r_)
theorem r10_still.D {a0 : TAuto} {a1 : Bool} {a2 : Bool} {a3 : List TWeight} {r : (List TWeight)} (h : r10_still.f a0 a1 a2 a3 r) : D Try.prog X (.callH 24 [.agg (TAuto.lit a0), .val (.bool a1), .val (.bool a2), .own 0 a3.length] [⟨6, a3.map TWeight.cells, 0, none⟩] (.own 0 r.length) [⟨6, r.map TWeight.cells, 0, none⟩]) := by
  unfold r10_still.f at h
  refine .enter 66 1 fn24 rfl rfl rfl ?_
  refine .seq ?_
  refine .room 0 ?_
  refine .reg0 rfl (.op 1 rfl (bxP (s := 7) (cs := (TAuto.lit a0)) rfl ⟨rfl, by decide, rfl⟩ rfl) <| .op 0 rfl (asV rfl) <| .nil0) ?_
  refine .seq ?_
  refine .seq ?_
  refine .reg0 rfl (.op 0 rfl (asV rfl) <| .nil0) ?_
  refine .block ?_
  refine .keepL [0, 1] [(1, .val (.bool a1)), (2, .val (.bool a2)), (3, .own 0 a3.length), (4, .ptr 1 1 7 0 0), (9, .val (.bool true))] [⟨6, a3.map TWeight.cells, 0, none⟩, ⟨7, [(TAuto.lit a0)], 0, none⟩] (by decide) (by decide) ⟨.free rfl rfl, .free rfl rfl, .own rfl, .ptr rfl, .free rfl rfl, trivial⟩ ⟨⟨_, rfl, bcRow (l := a3) sl46 (Nat.le_refl _) rfl⟩, ⟨_, rfl, bcBox (all2_free rfl)⟩, trivial⟩ ?_
  obtain ⟨o1, hL1, h⟩ := h
  refine .loopB (r10_still.b1 a0 a1 a2) (fun (x18, x19) => listEnv [(1, .val (.bool a1)), (2, .val (.bool a2)), (3, .own 0 x18.length), (4, .ptr 1 1 7 0 0), (9, .val (.bool x19))]) (fun (x18, x19) => [⟨6, x18.map TWeight.cells, 0, none⟩, ⟨7, [(TAuto.lit a0)], 0, none⟩]) (fun x37 => listEnv [(3, .own 0 x37.length)]) (fun x37 => [⟨6, x37.map TWeight.cells, 0, none⟩]) hL1 (fun r_ => r = r_) ?_ ?_ ?_
  · rintro x37 rfl
    try dsimp only [Fin.on] at h
    refine .seq ?_
    refine .reg0 rfl (.op 0 rfl (mvO rfl) <| .op 0 rfl (asO rfl) <| .nil0) ?_
    replace h := h.symm
    subst h
    refine .keepL [0] [(8, .own 0 x37.length)] [⟨6, x37.map TWeight.cells, 0, none⟩] (by decide) (by decide) ⟨.own rfl, trivial⟩ ⟨⟨_, rfl, bcRow (l := x37) sl46 (Nat.le_refl _) rfl⟩, trivial⟩ ?_
    exact .ret rfl
  · rintro r_ rfl
    exact h
  · rintro ⟨x18, x19⟩ z1 h hn1 hx1 hr1
    dsimp only [r10_still.b1] at h
    refine .seq ?_
    refine .seq ?_
    refine .reg0 rfl (.op 0 rfl (mvV rfl) <| .nil0) ?_
    by_cases c38 : x19 = true
    · rw [if_pos c38] at h
      refine .condT rfl c38 ?_
      refine .skip ?_
      refine .block ?_
      refine .seq ?_
      refine .reg0 rfl (.op 0 rfl (asV rfl) <| .nil0) ?_
      refine .seq ?_
      refine .reg0 rfl (.op 0 rfl (asV rfl) <| .nil0) ?_
      refine .block ?_
      refine .keepL [0, 1] [(1, .val (.bool a1)), (2, .val (.bool a2)), (3, .own 0 x18.length), (4, .ptr 1 1 7 0 0), (9, .val (.bool false)), (10, .val (.int .i64 0))] [⟨6, x18.map TWeight.cells, 0, none⟩, ⟨7, [(TAuto.lit a0)], 0, none⟩] (by decide) (by decide) ⟨.free rfl rfl, .free rfl rfl, .own rfl, .ptr rfl, .free rfl rfl, .free rfl rfl, trivial⟩ ⟨⟨_, rfl, bcRow (l := x18) sl46 (Nat.le_refl _) rfl⟩, ⟨_, rfl, bcBox (all2_free rfl)⟩, trivial⟩ ?_
      obtain ⟨o2, hL2, h⟩ := h
      refine .loopB (r10_still.b2 a0 a1 a2) (fun (x44, x45, x46) => listEnv [(1, .val (.bool a1)), (2, .val (.bool a2)), (3, .own 0 x44.length), (4, .ptr 1 1 7 0 0), (9, .val (.bool x45)), (10, .val (.int .i64 x46))]) (fun (x44, x45, x46) => [⟨6, x44.map TWeight.cells, 0, none⟩, ⟨7, [(TAuto.lit a0)], 0, none⟩]) (fun (x53, x54) => listEnv [(1, .val (.bool a1)), (2, .val (.bool a2)), (3, .own 0 x53.length), (4, .ptr 1 1 7 0 0), (9, .val (.bool x54))]) (fun (x53, x54) => [⟨6, x53.map TWeight.cells, 0, none⟩, ⟨7, [(TAuto.lit a0)], 0, none⟩]) hL2 (fun r_ => z1 = .ret r_) ?_ ?_ ?_
      · rintro ⟨x53, x54⟩ rfl
        try dsimp only [Fin.on] at h
        refine .inBlock ?_
        refine .keepL [0, 1] [(1, .val (.bool a1)), (2, .val (.bool a2)), (3, .own 0 x53.length), (4, .ptr 1 1 7 0 0), (9, .val (.bool x54))] [⟨6, x53.map TWeight.cells, 0, none⟩, ⟨7, [(TAuto.lit a0)], 0, none⟩] (by decide) (by decide) ⟨.free rfl rfl, .free rfl rfl, .own rfl, .ptr rfl, .free rfl rfl, trivial⟩ ⟨⟨_, rfl, bcRow (l := x53) sl46 (Nat.le_refl _) rfl⟩, ⟨_, rfl, bcBox (all2_free rfl)⟩, trivial⟩ ?_
        exact hn1 _ h
      · rintro r_ rfl
        exact h
      · rintro ⟨x44, x45, x46⟩ z2 h hn2 hx2 hr2
        dsimp only [r10_still.b2] at h
        refine .seq ?_
        refine .seq ?_
        refine .reg0 rfl (.op 0 rfl (mvV rfl) <| .op 0 rfl (faP fa35_4 rfl) <| .op 0 rfl (ldP rfl sz33 ag33 rfl) <| .op 0 rfl (lnR (l := a0.Trans) sl33 rfl) <| .op 0 rfl (ltI rfl rfl) <| .nil0) ?_
        by_cases c57 : x46 < (a0.Trans.length : Int)
        · rw [if_pos c57] at h
          refine .condT rfl (decide_eq_true c57) ?_
          refine .skip ?_
          refine .seq ?_
          refine .consJ (fun s_ => r10_still.j1 x46 s_ z2) (fun (x57, x58) => listEnv [(1, .val (.bool a1)), (2, .val (.bool a2)), (3, .own 0 x57.length), (4, .ptr 1 1 7 0 0), (9, .val (.bool x58)), (10, .val (.int .i64 x46))]) (fun (x57, x58) => [⟨6, x57.map TWeight.cells, 0, none⟩, ⟨7, [(TAuto.lit a0)], 0, none⟩]) ?_ fun hJ1 => ?_
          · rintro ⟨x57, x58⟩ h
            unfold r10_still.j1 at h
            try dsimp only at h
            refine .reg0 rfl (.op 0 rfl (mvV rfl) <| .op 0 rfl (addI rfl rfl) <| .op 0 rfl (asV rfl) <| .nil0) ?_
            refine .keepL [0, 1] [(1, .val (.bool a1)), (2, .val (.bool a2)), (3, .own 0 x57.length), (4, .ptr 1 1 7 0 0), (9, .val (.bool x58)), (10, .val (.int .i64 (IntKind.i64.wrap (x46 + 1))))] [⟨6, x57.map TWeight.cells, 0, none⟩, ⟨7, [(TAuto.lit a0)], 0, none⟩] (by decide) (by decide) ⟨.free rfl rfl, .free rfl rfl, .own rfl, .ptr rfl, .free rfl rfl, .free rfl rfl, trivial⟩ ⟨⟨_, rfl, bcRow (l := x57) sl46 (Nat.le_refl _) rfl⟩, ⟨_, rfl, bcBox (all2_free rfl)⟩, trivial⟩ ?_
            exact hn2 _ h
          · refine .block ?_
            refine .seq ?_
            obtain ⟨g130_3, h⟩ := h
            refine .room 0 ?_
            refine .reg0 rfl (.op 0 rfl (faP fa35_4 rfl) <| .op 0 rfl (ldP rfl sz33 ag33 rfl) <| .op 0 rfl (mvV rfl) <| .op 0 rfl (ixR (l := a0.Trans) (lit := TTrans.lit) sl33 rfl rfl (fun _ => rfl) g130_3.1 g130_3.2) <| .op 0 rfl (ldCG rfl sz59 ag59 rfl) <| .op 2 rfl (alP (s := 9) ze59 ⟨rfl, by decide, rfl⟩ rfl) <| .op 0 rfl (stB (cs0 := [.val (.int .i64 0), .val (.int .i64 0), .val (.int .i64 0), .val (.bool false), .val (.int .i64 0), .val (.int .u64 0), .val (.slice none 0 0), .val (.slice none 0 0), .val (.slice none 0 0)]) (cs := (TTrans.lit (rdl a0.Trans x46))) (cs1 := (TTrans.lit (rdl a0.Trans x46))) rfl rfl sz59 rfl ⟨Nat.le_of_ble_eq_true rfl, rfl⟩ rfl) <| .nil0) ?_
            refine .seq ?_
            refine .seq ?_
            refine .reg0 (e1 := listEnv [(1, .val (.bool a1)), (2, .val (.bool a2)), (3, .own 0 x44.length), (4, .ptr 1 1 7 0 0), (9, .val (.bool x45)), (10, .val (.int .i64 x46)), (11, .ptr 2 1 9 0 0), (32, .val (.bool ((decide ((rdl a0.Trans x46).Sym ≥ 0)) && (!a2))))]) (H1 := [⟨6, x44.map TWeight.cells, 0, none⟩, ⟨7, [(TAuto.lit a0)], 0, none⟩, ⟨9, [(TTrans.lit (rdl a0.Trans x46))], 0, none⟩]) rfl ?_ ?_
            · by_cases c62 : (rdl a0.Trans x46).Sym ≥ 0
              · exact (.op 0 rfl (faP fa59_1 rfl) <| .op 0 rfl (ldP rfl sz3 ag3 rfl) <| .op 0 rfl (geI rfl rfl) <| .op 0 rfl (mvV rfl) <| .op 0 (gT rfl rfl rfl (decide_eq_true c62)) (mvV rfl) <| .op 0 (gT rfl rfl rfl (decide_eq_true c62)) (notB rfl) <| .op 0 rfl (pkTV rfl (decide_eq_true c62) rfl) <| .nilL _ ⟨.free rfl rfl, .free rfl rfl, .own rfl, .ptr rfl, .free rfl rfl, .free rfl rfl, .ptr rfl, cB rfl (mAndT (decide_eq_true c62) rfl), trivial⟩)
              · exact (.op 0 rfl (faP fa59_1 rfl) <| .op 0 rfl (ldP rfl sz3 ag3 rfl) <| .op 0 rfl (geI rfl rfl) <| .op 0 rfl (mvV rfl) <| .no (gF rfl rfl rfl (decide_eq_false c62)) <| .no (gF rfl rfl rfl (decide_eq_false c62)) <| .op 0 rfl (pkFV rfl (decide_eq_false c62) rfl) <| .nilL _ ⟨.free rfl rfl, .free rfl rfl, .own rfl, .ptr rfl, .free rfl rfl, .free rfl rfl, .ptr rfl, cB rfl (mAndF (decide_eq_false c62)), trivial⟩)
            by_cases c63 : ((decide ((rdl a0.Trans x46).Sym ≥ 0)) && (!a2)) = true
            · rw [if_pos c63] at h
              refine .condT rfl c63 ?_
              refine .exit rfl ?_
              refine .keepL [0, 1] [(1, .val (.bool a1)), (2, .val (.bool a2)), (3, .own 0 x44.length), (4, .ptr 1 1 7 0 0), (9, .val (.bool x45)), (10, .val (.int .i64 x46))] [⟨6, x44.map TWeight.cells, 0, none⟩, ⟨7, [(TAuto.lit a0)], 0, none⟩] (by decide) (by decide) ⟨.free rfl rfl, .free rfl rfl, .own rfl, .ptr rfl, .free rfl rfl, .free rfl rfl, trivial⟩ ⟨⟨_, rfl, bcRow (l := x44) sl46 (Nat.le_refl _) rfl⟩, ⟨_, rfl, bcBox (all2_free rfl)⟩, trivial⟩ ?_
              exact hJ1 _ h
            · rw [if_neg c63] at h
              refine .condF rfl (Bool.eq_false_iff.mpr c63) ?_
              refine .skip ?_
              refine .seq ?_
              obtain ⟨g132_5, h⟩ := h
              obtain ⟨g132_15, h⟩ := h
              obtain ⟨t132_17, g132_17, h⟩ := h
              obtain ⟨t132_18, g132_18, h⟩ := h
              refine .room 0 ?_
              refine .reg1 (e1 := listEnv [(1, .val (.bool a1)), (2, .val (.bool a2)), (3, .own 0 x44.length), (4, .ptr 1 1 7 0 0), (9, .val (.bool x45)), (10, .val (.int .i64 x46)), (11, .ptr 2 1 9 0 0), (12, .ptr 3 1 6 0 0)]) (H1 := [⟨6, x44.map TWeight.cells, 0, none⟩, ⟨7, [(TAuto.lit a0)], 0, none⟩, ⟨9, [(TTrans.lit (rdl a0.Trans x46))], 0, none⟩, ⟨6, [(TWeight.lit t132_18)], 0, none⟩]) rfl ?_ ?_
              · exact .drawM [(19, 12, .ptr 3 1 6 0 0), (18, 51, .agg (TWeight.lit t132_18)), (17, 50, .agg (TWeight.lit t132_17)), (16, 49, .agg (TWeight.lit (rdl x44 ((rdl a0.Trans x46).To)))), (15, 48, .ptr 0 x44.length 6 (Int.toNat ((rdl a0.Trans x46).To)) 0), (14, 47, .val (.int .i64 ((rdl a0.Trans x46).To))), (13, 46, .ptr 2 1 9 0 2), (12, 45, .own 0 x44.length), (11, 44, .agg (TWeight.lit ((rdl a0.Trans x46).W))), (10, 43, .ptr 2 1 9 0 3), (9, 42, .val (.bool a1)), (8, 41, .agg (TSpace.lit a0.Space)), (7, 40, .ptr 1 1 7 0 0), (6, 39, .agg (TWeight.lit (rdl x44 ((rdl a0.Trans x46).From)))), (5, 38, .ptr 0 x44.length 6 (Int.toNat ((rdl a0.Trans x46).From)) 0), (4, 37, .val (.int .i64 ((rdl a0.Trans x46).From))), (3, 36, .ptr 2 1 9 0 0), (2, 35, .own 0 x44.length), (1, 34, .agg (TSpace.lit a0.Space)), (0, 33, .ptr 1 1 7 0 0)] [(20, 3, ⟨6, [(TWeight.lit t132_18)], 0, none⟩), (19, 3, ⟨6, [[.val (.bool false), .val (.int .i64 0), .val (.int .u64 0), .val (.slice none 0 0), .val (.slice none 0 0), .val (.slice none 0 0)]], 0, none⟩)] [[], [0], [], [], [3], [2, 4, 3], [5, 2, 4, 3], [], [7], [], [], [10], [], [], [13], [12, 14, 13], [15, 12, 14, 13], [8, 7, 9, 11, 10, 16, 15, 12, 14, 13], [1, 0, 6, 5, 2, 4, 3, 17, 8, 7, 9, 11, 10, 16, 15, 12, 14, 13], [], [19, 18, 1, 0, 6, 5, 2, 4, 3, 17, 8, 7, 9, 11, 10, 16, 15, 12, 14, 13]] (by rfl) (by rfl) (by rfl) (by exact ⟨fun S hS hD hn => .one 0 hS hD hn rfl rfl (faP fa35_0 rfl) rfl rfl rfl, fun S hS hD hn => .one 0 hS hD hn rfl rfl (ldG rfl sz25 ag25 rfl) rfl rfl rfl, fun S hS hD hn => .one 0 hS hD hn rfl rfl (mvO rfl) rfl rfl rfl, fun S hS hD hn => .one 0 hS hD hn rfl rfl (faP fa59_0 rfl) rfl rfl rfl, fun S hS hD hn => .one 0 hS hD hn rfl rfl (ldP rfl sz3 ag3 rfl) rfl rfl rfl, fun S hS hD hn => .one 0 hS hD hn rfl rfl (ixO (l := x44) sl46 rfl rfl rfl rfl g132_5.1 g132_5.2) rfl rfl rfl, fun S hS hD hn => .one 0 hS hD hn rfl rfl (ldOG (l := x44) (j := ((rdl a0.Trans x46).From)) sl46 rfl sz48 ag48 rfl rfl TWeight.cells_lit g132_5.1 g132_5.2 (by decide) rfl) rfl rfl rfl, fun S hS hD hn => .one 0 hS hD hn rfl rfl (faP fa35_0 rfl) rfl rfl rfl, fun S hS hD hn => .one 0 hS hD hn rfl rfl (ldG rfl sz25 ag25 rfl) rfl rfl rfl, fun S hS hD hn => .one 0 hS hD hn rfl rfl (mvV rfl) rfl rfl rfl, fun S hS hD hn => .one 0 hS hD hn rfl rfl (faP fa59_3 rfl) rfl rfl rfl, fun S hS hD hn => .one 0 hS hD hn rfl rfl (ldG rfl sz48 ag48 rfl) rfl rfl rfl, fun S hS hD hn => .one 0 hS hD hn rfl rfl (mvO rfl) rfl rfl rfl, fun S hS hD hn => .one 0 hS hD hn rfl rfl (faP fa59_2 rfl) rfl rfl rfl, fun S hS hD hn => .one 0 hS hD hn rfl rfl (ldP rfl sz3 ag3 rfl) rfl rfl rfl, fun S hS hD hn => .one 0 hS hD hn rfl rfl (ixO (l := x44) sl46 rfl rfl rfl rfl g132_15.1 g132_15.2) rfl rfl rfl, fun S hS hD hn => .one 0 hS hD hn rfl rfl (ldOG (l := x44) (j := ((rdl a0.Trans x46).To)) sl46 rfl sz48 ag48 rfl rfl TWeight.cells_lit g132_15.1 g132_15.2 (by decide) rfl) rfl rfl rfl, fun S hS hD hn => .oneI hS hD hn rfl rfl (callee_of rfl go41 rfl) (.pure rfl rfl (r10_Ext.D g132_17)) rfl rfl rfl, fun S hS hD hn => .oneI hS hD hn rfl rfl (callee_of rfl go40 rfl) (.pure rfl rfl (r05_Either.D g132_18)) rfl rfl rfl, fun S hS hD hn => .one 3 hS hD hn rfl rfl (alP (s := 6) ze48 ⟨rfl, by decide, rfl⟩ rfl) rfl rfl rfl, fun S hS hD hn => .one0 0 rfl rfl (stB (cs0 := [.val (.bool false), .val (.int .i64 0), .val (.int .u64 0), .val (.slice none 0 0), .val (.slice none 0 0), .val (.slice none 0 0)]) (cs := (TWeight.lit t132_18)) (cs1 := (TWeight.lit t132_18)) rfl rfl sz48 rfl ⟨Nat.le_of_ble_eq_true rfl, rfl⟩ rfl) (drawE_other _ _ _ _ rfl) rfl, trivial⟩) _ (by exact ⟨.free rfl rfl, .free rfl rfl, .own rfl, .ptr rfl, .free rfl rfl, .free rfl rfl, .ptr rfl, .ptr rfl, trivial⟩) (by rfl)
              refine .seq ?_
              obtain ⟨g133_4, h⟩ := h
              obtain ⟨t133_6, g133_6, h⟩ := h
              refine .reg1 (e1 := listEnv [(1, .val (.bool a1)), (2, .val (.bool a2)), (3, .own 0 x44.length), (4, .ptr 1 1 7 0 0), (9, .val (.bool x45)), (10, .val (.int .i64 x46)), (11, .ptr 2 1 9 0 0), (12, .ptr 3 1 6 0 0), (59, .val (.bool (!t133_6)))]) (H1 := [⟨6, x44.map TWeight.cells, 0, none⟩, ⟨7, [(TAuto.lit a0)], 0, none⟩, ⟨9, [(TTrans.lit (rdl a0.Trans x46))], 0, none⟩, ⟨6, [(TWeight.lit t132_18)], 0, none⟩]) rfl ?_ ?_
              · exact .drawM [(7, 59, .val (.bool (!t133_6))), (6, 58, .val (.bool t133_6)), (5, 57, .agg (TWeight.lit (rdl x44 ((rdl a0.Trans x46).From)))), (4, 56, .ptr 0 x44.length 6 (Int.toNat ((rdl a0.Trans x46).From)) 0), (3, 55, .val (.int .i64 ((rdl a0.Trans x46).From))), (2, 54, .ptr 2 1 9 0 0), (1, 53, .own 0 x44.length), (0, 52, .agg (TWeight.lit t132_18))] [] [[], [], [], [2], [1, 3, 2], [4, 1, 3, 2], [0, 5, 4, 1, 3, 2], [6, 0, 5, 4, 1, 3, 2]] (by rfl) (by rfl) (by rfl) (by exact ⟨fun S hS hD hn => .one 0 hS hD hn rfl rfl (ldG rfl sz48 ag48 rfl) rfl rfl rfl, fun S hS hD hn => .one 0 hS hD hn rfl rfl (mvO rfl) rfl rfl rfl, fun S hS hD hn => .one 0 hS hD hn rfl rfl (faP fa59_0 rfl) rfl rfl rfl, fun S hS hD hn => .one 0 hS hD hn rfl rfl (ldP rfl sz3 ag3 rfl) rfl rfl rfl, fun S hS hD hn => .one 0 hS hD hn rfl rfl (ixO (l := x44) sl46 rfl rfl rfl rfl g133_4.1 g133_4.2) rfl rfl rfl, fun S hS hD hn => .one 0 hS hD hn rfl rfl (ldOG (l := x44) (j := ((rdl a0.Trans x46).From)) sl46 rfl sz48 ag48 rfl rfl TWeight.cells_lit g133_4.1 g133_4.2 (by decide) rfl) rfl rfl rfl, fun S hS hD hn => .oneI hS hD hn rfl rfl (callee_of rfl go12 rfl) (.pure rfl rfl (r05_Same.D g133_6)) rfl rfl rfl, fun S hS hD hn => .one 0 hS hD hn rfl rfl (notB rfl) rfl rfl rfl, trivial⟩) _ (by exact ⟨.free rfl rfl, .free rfl rfl, .own rfl, .ptr rfl, .free rfl rfl, .free rfl rfl, .ptr rfl, .ptr rfl, .free rfl rfl, trivial⟩) (by rfl)
              refine .consJ (fun s_ => r10_still.j2 x46 s_ z2) (fun (x59, x60) => listEnv [(1, .val (.bool a1)), (2, .val (.bool a2)), (3, .own 0 x59.length), (4, .ptr 1 1 7 0 0), (9, .val (.bool x60)), (10, .val (.int .i64 x46))]) (fun (x59, x60) => [⟨6, x59.map TWeight.cells, 0, none⟩, ⟨7, [(TAuto.lit a0)], 0, none⟩]) ?_ fun hJ2 => ?_
              · rintro ⟨x59, x60⟩ h
                unfold r10_still.j2 at h
                try dsimp only at h
                refine .inBlock ?_
                refine .keepL [0, 1] [(1, .val (.bool a1)), (2, .val (.bool a2)), (3, .own 0 x59.length), (4, .ptr 1 1 7 0 0), (9, .val (.bool x60)), (10, .val (.int .i64 x46))] [⟨6, x59.map TWeight.cells, 0, none⟩, ⟨7, [(TAuto.lit a0)], 0, none⟩] (by decide) (by decide) ⟨.free rfl rfl, .free rfl rfl, .own rfl, .ptr rfl, .free rfl rfl, .free rfl rfl, trivial⟩ ⟨⟨_, rfl, bcRow (l := x59) sl46 (Nat.le_refl _) rfl⟩, ⟨_, rfl, bcBox (all2_free rfl)⟩, trivial⟩ ?_
                exact hJ1 _ h
              · by_cases c65 : t133_6 = true
                · rw [if_pos c65] at h
                  refine .condF rfl (bnotF c65) ?_
                  refine .skip ?_
                  refine .keepL [0, 1] [(1, .val (.bool a1)), (2, .val (.bool a2)), (3, .own 0 x44.length), (4, .ptr 1 1 7 0 0), (9, .val (.bool x45)), (10, .val (.int .i64 x46))] [⟨6, x44.map TWeight.cells, 0, none⟩, ⟨7, [(TAuto.lit a0)], 0, none⟩] (by decide) (by decide) ⟨.free rfl rfl, .free rfl rfl, .own rfl, .ptr rfl, .free rfl rfl, .free rfl rfl, trivial⟩ ⟨⟨_, rfl, bcRow (l := x44) sl46 (Nat.le_refl _) rfl⟩, ⟨_, rfl, bcBox (all2_free rfl)⟩, trivial⟩ ?_
                  exact hJ2 _ h
                · rw [if_neg c65] at h
                  refine .condT rfl (bnotT (Bool.eq_false_iff.mpr c65)) ?_
                  refine .seq ?_
                  obtain ⟨g136_4, h⟩ := h
                  refine .reg0 rfl (.op 0 rfl (mvO rfl) <| .op 0 rfl (faP fa59_0 rfl) <| .op 0 rfl (ldP rfl sz3 ag3 rfl) <| .op 0 rfl (ldG rfl sz48 ag48 rfl) <| .op 0 rfl (ixO (l := x44) sl46 rfl rfl rfl rfl g136_4.1 g136_4.2) <| .op 0 rfl (stO (l := x44) (j := ((rdl a0.Trans x46).From)) (cs := (TWeight.lit t132_18)) t132_18 sl46 rfl rfl sz48 rfl rfl g136_4.1 g136_4.2 (Nat.zero_le _) ⟨Nat.le_of_ble_eq_true rfl, rfl⟩ (by simp only [TWeight.cells_lit]; rfl)) <| .nil0) ?_
                  refine .reg0 rfl (.op 0 rfl (asV rfl) <| .nil0) ?_
                  refine .keepL [0, 1] [(1, .val (.bool a1)), (2, .val (.bool a2)), (3, .own 0 ((setl x44 ((rdl a0.Trans x46).From) t132_18).length)), (4, .ptr 1 1 7 0 0), (9, .val (.bool true)), (10, .val (.int .i64 x46))] [⟨6, (setl x44 ((rdl a0.Trans x46).From) t132_18).map TWeight.cells, 0, none⟩, ⟨7, [(TAuto.lit a0)], 0, none⟩] (by decide) (by decide) ⟨.free rfl rfl, .free rfl rfl, cOwnE rfl (by simp only [setl, List.length_set]), .ptr rfl, .free rfl rfl, .free rfl rfl, trivial⟩ ⟨⟨_, rfl, bcRow (l := (setl x44 ((rdl a0.Trans x46).From) t132_18)) sl46 (Nat.le_refl _) rfl⟩, ⟨_, rfl, bcBox (all2_free rfl)⟩, trivial⟩ ?_
                  exact hJ2 _ h
        · rw [if_neg c57] at h
          refine .condF rfl (decide_eq_false c57) ?_
          refine .exit rfl ?_
          refine .keepL [0, 1] [(1, .val (.bool a1)), (2, .val (.bool a2)), (3, .own 0 x44.length), (4, .ptr 1 1 7 0 0), (9, .val (.bool x45))] [⟨6, x44.map TWeight.cells, 0, none⟩, ⟨7, [(TAuto.lit a0)], 0, none⟩] (by decide) (by decide) ⟨.free rfl rfl, .free rfl rfl, .own rfl, .ptr rfl, .free rfl rfl, trivial⟩ ⟨⟨_, rfl, bcRow (l := x44) sl46 (Nat.le_refl _) rfl⟩, ⟨_, rfl, bcBox (all2_free rfl)⟩, trivial⟩ ?_
          exact hx2 _ h
    · rw [if_neg c38] at h
      refine .condF rfl (Bool.eq_false_iff.mpr c38) ?_
      refine .exit rfl ?_
      refine .keepL [0] [(3, .own 0 x18.length)] [⟨6, x18.map TWeight.cells, 0, none⟩] (by decide) (by decide) ⟨.own rfl, trivial⟩ ⟨⟨_, rfl, bcRow (l := x18) sl46 (Nat.le_refl _) rfl⟩, trivial⟩ ?_
      exact hx1 _ h
def r10_ends_o0.j1 (x5 : Int) : (List TWeight) → (Rnd (((List TWeight) × Int)) ((List TWeight)) ((List TWeight))) → Prop := fun x10 z1 => z1 = .next (x10, (IntKind.i64.wrap (x5 + 1)))
def r10_ends_o0.b1 (a0 : TAuto) : ((List TWeight) × Int) → Rnd (((List TWeight) × Int)) ((List TWeight)) ((List TWeight)) → Prop := fun (x4, x5) z1 => if x5 < a0.States then (∃ t34_2 : Bool, (r10_final.f a0 x5 t34_2) ∧ if t34_2 = true then (∃ t38_3 : TWeight, (r10_One.f a0.Space t38_3) ∧ ((Fits (x4.length + 1) 96)) ∧ r10_ends_o0.j1 x5 (x4 ++ [t38_3]) z1) else (∃ t39_3 : TWeight, (r10_Zero.f a0.Space t39_3) ∧ ((Fits (x4.length + 1) 96)) ∧ r10_ends_o0.j1 x5 (x4 ++ [t39_3]) z1)) else (z1 = .exit x4)
def r10_ends_o0.f (a0 : TAuto) (r : (List TWeight)) : Prop :=
  ∃ o1 : Fin ((List TWeight)) ((List TWeight)), Loop (r10_ends_o0.b1 a0) ([], 0) o1 ∧ o1.on (fun x8 => r = x8) (fun r_ => r = r_)
theorem r10_ends_o0.D {a0 : TAuto} {r : (List TWeight)} (h : r10_ends_o0.f a0 r) : D Try.prog X (.callH 25 [.agg (TAuto.lit a0)] [] (.own 0 r.length) [⟨6, r.map TWeight.cells, 0, none⟩]) := by
  unfold r10_ends_o0.f at h
  refine .enter 27 0 fn25 rfl rfl rfl ?_
  refine .seq ?_
  refine .room 0 ?_
  refine .reg0 rfl (.op 0 rfl (bxP (s := 7) (cs := (TAuto.lit a0)) rfl ⟨rfl, by decide, rfl⟩ rfl) <| .op 0 rfl (asV rfl) <| .nil0) ?_
  refine .seq ?_
  refine .reg0 rfl (.op 0 rfl (asV rfl) <| .nil0) ?_
  refine .seq ?_
  refine .seq ?_
  refine .reg0 rfl (.op 0 rfl (asV rfl) <| .nil0) ?_
  refine .block ?_
  refine .room 6 ?_
  refine .keepL [0, 1] [(1, .ptr 0 1 7 0 0), (3, .own 1 0), (4, .val (.int .i64 0))] [⟨7, [(TAuto.lit a0)], 0, none⟩, ⟨6, [].map TWeight.cells, 0, none⟩] (by decide) (by decide) ⟨.ptr rfl, .nilOwn, .free rfl rfl, trivial⟩ ⟨⟨_, rfl, bcBox (all2_free rfl)⟩, ⟨_, rfl, (bcRow (l := []) sl46 (Nat.le_refl _) rfl)⟩, trivial⟩ ?_
  obtain ⟨o1, hL1, h⟩ := h
  refine .loopB (r10_ends_o0.b1 a0) (fun (x4, x5) => listEnv [(1, .ptr 0 1 7 0 0), (3, .own 1 x4.length), (4, .val (.int .i64 x5))]) (fun (x4, x5) => [⟨7, [(TAuto.lit a0)], 0, none⟩, ⟨6, x4.map TWeight.cells, 0, none⟩]) (fun x8 => listEnv [(3, .own 0 x8.length)]) (fun x8 => [⟨6, x8.map TWeight.cells, 0, none⟩]) hL1 (fun r_ => r = r_) ?_ ?_ ?_
  · rintro x8 rfl
    try dsimp only [Fin.on] at h
    refine .seq ?_
    refine .reg0 rfl (.op 0 rfl (mvO rfl) <| .op 0 rfl (asO rfl) <| .nil0) ?_
    replace h := h.symm
    subst h
    refine .keepL [0] [(2, .own 0 x8.length)] [⟨6, x8.map TWeight.cells, 0, none⟩] (by decide) (by decide) ⟨.own rfl, trivial⟩ ⟨⟨_, rfl, bcRow (l := x8) sl46 (Nat.le_refl _) rfl⟩, trivial⟩ ?_
    exact .ret rfl
  · rintro r_ rfl
    exact h
  · rintro ⟨x4, x5⟩ z1 h hn1 hx1 hr1
    dsimp only [r10_ends_o0.b1] at h
    refine .seq ?_
    refine .seq ?_
    refine .reg0 rfl (.op 0 rfl (mvV rfl) <| .op 0 rfl (faP fa35_1 rfl) <| .op 0 rfl (ldP rfl sz3 ag3 rfl) <| .op 0 rfl (ltI rfl rfl) <| .nil0) ?_
    by_cases c11 : x5 < a0.States
    · rw [if_pos c11] at h
      refine .condT rfl (decide_eq_true c11) ?_
      refine .skip ?_
      refine .seq ?_
      refine .block ?_
      refine .seq ?_
      obtain ⟨t34_2, g34_2, h⟩ := h
      refine .reg0 rfl (.op 0 rfl (ldG rfl sz35 ag35 rfl) <| .op 0 rfl (mvV rfl) <| .callI rfl (callee_of rfl go42 rfl) (.pure rfl rfl (r10_final.D g34_2)) <| .nil0) ?_
      refine .consJ (fun s_ => r10_ends_o0.j1 x5 s_ z1) (fun x10 => listEnv [(1, .ptr 0 1 7 0 0), (3, .own 1 x10.length), (4, .val (.int .i64 x5))]) (fun x10 => [⟨7, [(TAuto.lit a0)], 0, none⟩, ⟨6, x10.map TWeight.cells, 0, none⟩]) ?_ fun hJ1 => ?_
      · rintro x10 h
        unfold r10_ends_o0.j1 at h
        try dsimp only at h
        refine .inBlock ?_
        refine .reg0 rfl (.op 0 rfl (mvV rfl) <| .op 0 rfl (addI rfl rfl) <| .op 0 rfl (asV rfl) <| .nil0) ?_
        refine .keepL [0, 1] [(1, .ptr 0 1 7 0 0), (3, .own 1 x10.length), (4, .val (.int .i64 (IntKind.i64.wrap (x5 + 1))))] [⟨7, [(TAuto.lit a0)], 0, none⟩, ⟨6, x10.map TWeight.cells, 0, none⟩] (by decide) (by decide) ⟨.ptr rfl, .own rfl, .free rfl rfl, trivial⟩ ⟨⟨_, rfl, bcBox (all2_free rfl)⟩, ⟨_, rfl, bcRow (l := x10) sl46 (Nat.le_refl _) rfl⟩, trivial⟩ ?_
        exact hn1 _ h
      · by_cases c15 : t34_2 = true
        · rw [if_pos c15] at h
          refine .condT rfl c15 ?_
          obtain ⟨t38_3, g38_3, h⟩ := h
          obtain ⟨g38_5, h⟩ := h
          refine .room 0 ?_
          refine .room 0 ?_
          refine .reg0 rfl (.op 0 rfl (mvO rfl) <| .op 0 rfl (faP fa35_0 rfl) <| .op 0 rfl (ldG rfl sz25 ag25 rfl) <| .callI rfl (callee_of rfl go13 rfl) (.pure rfl rfl (r10_One.D g38_3)) <| .op 2 rfl (bldT (s := 6) (cs := [.val (.bool t38_3.Zero), .val (.int .i64 t38_3.Cost), .val (.int .u64 t38_3.Facts.Gen), .rows (t38_3.Facts.Rows.map (cInt .u64)), .rows (t38_3.Cells.map TCell.cells), .rows (t38_3.Parts.map TWeight.cells)]) (cf := TWeight.cells) [t38_3] un46 sz48 ze48 ⟨by decide, rfl, by decide⟩ rfl rfl rfl (by simp only [List.map, TWeight.cells_lit]; rfl) rfl) <| .op 0 rfl (ap1 (l := x4) t38_3 sl46 rfl rfl rfl (Nat.zero_le _) (elems_own (l := [t38_3]) rfl rfl) g38_5) <| .op 0 rfl (asO rfl) <| .nil0) ?_
          refine .keepL [0, 1] [(1, .ptr 0 1 7 0 0), (3, .own 1 ((x4 ++ [t38_3]).length)), (4, .val (.int .i64 x5))] [⟨7, [(TAuto.lit a0)], 0, none⟩, ⟨6, (x4 ++ [t38_3]).map TWeight.cells, 0, none⟩] (by decide) (by decide) ⟨.ptr rfl, .own rfl, .free rfl rfl, trivial⟩ ⟨⟨_, rfl, bcBox (all2_free rfl)⟩, ⟨_, rfl, bcRow (l := (x4 ++ [t38_3])) sl46 (Nat.le_refl _) rfl⟩, trivial⟩ ?_
          exact hJ1 _ h
        · rw [if_neg c15] at h
          refine .condF rfl (Bool.eq_false_iff.mpr c15) ?_
          obtain ⟨t39_3, g39_3, h⟩ := h
          obtain ⟨g39_5, h⟩ := h
          refine .room 0 ?_
          refine .room 0 ?_
          refine .reg0 rfl (.op 0 rfl (mvO rfl) <| .op 0 rfl (faP fa35_0 rfl) <| .op 0 rfl (ldG rfl sz25 ag25 rfl) <| .callI rfl (callee_of rfl go15 rfl) (.pure rfl rfl (r10_Zero.D g39_3)) <| .op 2 rfl (bldT (s := 6) (cs := [.val (.bool t39_3.Zero), .val (.int .i64 t39_3.Cost), .val (.int .u64 t39_3.Facts.Gen), .rows (t39_3.Facts.Rows.map (cInt .u64)), .rows (t39_3.Cells.map TCell.cells), .rows (t39_3.Parts.map TWeight.cells)]) (cf := TWeight.cells) [t39_3] un46 sz48 ze48 ⟨by decide, rfl, by decide⟩ rfl rfl rfl (by simp only [List.map, TWeight.cells_lit]; rfl) rfl) <| .op 0 rfl (ap1 (l := x4) t39_3 sl46 rfl rfl rfl (Nat.zero_le _) (elems_own (l := [t39_3]) rfl rfl) g39_5) <| .op 0 rfl (asO rfl) <| .nil0) ?_
          refine .keepL [0, 1] [(1, .ptr 0 1 7 0 0), (3, .own 1 ((x4 ++ [t39_3]).length)), (4, .val (.int .i64 x5))] [⟨7, [(TAuto.lit a0)], 0, none⟩, ⟨6, (x4 ++ [t39_3]).map TWeight.cells, 0, none⟩] (by decide) (by decide) ⟨.ptr rfl, .own rfl, .free rfl rfl, trivial⟩ ⟨⟨_, rfl, bcBox (all2_free rfl)⟩, ⟨_, rfl, bcRow (l := (x4 ++ [t39_3])) sl46 (Nat.le_refl _) rfl⟩, trivial⟩ ?_
          exact hJ1 _ h
    · rw [if_neg c11] at h
      refine .condF rfl (decide_eq_false c11) ?_
      refine .exit rfl ?_
      refine .keepL [1] [(3, .own 0 x4.length)] [⟨6, x4.map TWeight.cells, 0, none⟩] (by decide) (by decide) ⟨.own rfl, trivial⟩ ⟨⟨_, rfl, bcRow (l := x4) sl46 (Nat.le_refl _) rfl⟩, trivial⟩ ?_
      exact hx1 _ h
end Go.RM.Try
