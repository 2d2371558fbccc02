/- GG, for the statement QueryOnes: what it needs, no more. -/
import Derived.Test.YtphfgnecmgpnaaaZQueryOnesGF
set_option linter.unusedVariables false
set_option maxRecDepth 8000
set_option maxHeartbeats 4000000
namespace Go.RM.Try
open Go.RM Go.Proofs
variable {X : FuncId → List PV → Heap → PV → Heap → Prop}
def r05_is.b1 (a0 : TSpace) (a1 : TWeight) : Int → Rnd Int Unit Bool → Prop := fun x1 z1 => if x1 < (a1.Cells.length : Int) then (((InR x1 a1.Cells.length)) ∧ ∃ t24_7 : Bool, (r05_cell.f a0.Dim (rdl a1.Cells x1) t24_7) ∧ if t24_7 = true then (z1 = .next (IntKind.i64.wrap (x1 + 1))) else (z1 = .ret false)) else (z1 = .exit ())
def r05_is.step (self54 : TSpace → TWeight → Bool → Prop) (a0 : TSpace) (a1 : TWeight) (r : Bool) : Prop :=
  if a1.Zero = true then (∃ t3_5 : Bool, (¬ (a0.Tag = 5) → r05_plain.f a1 false false false false t3_5) ∧ r = ((!(a0.Tag == 5)) && t3_5)) else (if a0.Tag = 1 then (∃ t6_1 : Bool, (r05_plain.f a1 false false false false t6_1) ∧ r = t6_1) else (if a0.Tag = 2 then (∃ t8_1 : Bool, (r05_plain.f a1 true false false false t8_1) ∧ r = (t8_1 && ((decide (a1.Cost ≥ 0)) && (decide (a1.Cost ≤ a0.Dim))))) else (if a0.Tag = 3 then (∃ t10_1 : Bool, (r05_plain.f a1 false true false false t10_1) ∧ ∃ t10_7 : Int, ((t10_1 = true) → r03_Check.f a0.Dim a1.Facts t10_7) ∧ r = (t10_1 && (t10_7 == 0))) else (if a0.Tag = 4 then (∃ t12_1 : Bool, (r05_plain.f a1 false false true false t12_1) ∧ if ((!t12_1) || ((a1.Cells.length : Int) != a0.Dim)) = true then (r = false) else (∃ o1 : Fin Unit Bool, Loop (r05_is.b1 a0 a1) 0 o1 ∧ o1.on (fun _ => r = true) (fun r_ => r = r_))) else (∃ t28_1 : Bool, (r05_plain.f a1 false false false true t28_1) ∧ ((t28_1 = true) → ((a1.Parts.length : Int) = 2) → (InR 0 a0.Parts.length)) ∧ ((t28_1 = true) → ((a1.Parts.length : Int) = 2) → (InR 0 a1.Parts.length)) ∧ ∃ t28_17 : Bool, ((t28_1 = true) → ((a1.Parts.length : Int) = 2) → self54 (rdl a0.Parts 0) (rdl a1.Parts 0) t28_17) ∧ ((t28_1 = true) → ((a1.Parts.length : Int) = 2) → (t28_17 = true) → (InR 1 a0.Parts.length)) ∧ ((t28_1 = true) → ((a1.Parts.length : Int) = 2) → (t28_17 = true) → (InR 1 a1.Parts.length)) ∧ ∃ t28_28 : Bool, ((t28_1 = true) → ((a1.Parts.length : Int) = 2) → (t28_17 = true) → self54 (rdl a0.Parts 1) (rdl a1.Parts 1) t28_28) ∧ r = (t28_1 && (((a1.Parts.length : Int) == 2) && (t28_17 && t28_28))))))))
theorem r05_is.stepD {self54 : TSpace → TWeight → Bool → Prop} {a0 : TSpace} {a1 : TWeight} (hs54 : ∀ z0_ z1_ r_, self54 z0_ z1_ r_ → D Try.prog X (.callH 54 [.agg (TSpace.lit z0_), .agg (TWeight.lit z1_)] [] (.val (.bool r_)) [])) {r : Bool} (h : r05_is.step self54 a0 a1 r) : D Try.prog X (.callH 54 [.agg (TSpace.lit a0), .agg (TWeight.lit a1)] [] (.val (.bool r)) []) := by
  unfold r05_is.step at h
  refine .enter 108 0 fn54 rfl rfl rfl ?_
  refine .seq ?_
  refine .room 0 ?_
  refine .room 0 ?_
  refine .reg0 rfl (.op 0 rfl (bxP (s := 3) (cs := (TSpace.lit a0)) rfl ⟨rfl, by decide, rfl⟩ rfl) <| .op 1 rfl (bxP (s := 6) (cs := (TWeight.lit a1)) rfl ⟨rfl, by decide, rfl⟩ rfl) <| .op 0 rfl (asV rfl) <| .nil0) ?_
  refine .seq ?_
  refine .seq ?_
  refine .reg0 rfl (.op 0 rfl (faP fa48_0 rfl) <| .op 0 rfl (ldP rfl sz4 ag4 rfl) <| .nil0) ?_
  by_cases c1 : a1.Zero = true
  · rw [if_pos c1] at h
    refine .condT rfl c1 ?_
    refine .seq ?_
    obtain ⟨t3_5, g3_5, h⟩ := h
    refine .reg0 (e1 := listEnv [(4, .val (.bool ((!(a0.Tag == 5)) && t3_5)))]) (H1 := [⟨3, [(TSpace.lit a0)], 0, none⟩, ⟨6, [(TWeight.lit a1)], 0, none⟩]) rfl ?_ ?_
    · by_cases c2 : a0.Tag = 5
      · exact (.op 0 rfl (faP fa25_0 rfl) <| .op 0 rfl (ldP rfl sz22 ag22 rfl) <| .op 0 rfl (neI rfl rfl) <| .op 0 rfl (mvV rfl) <| .no (gF rfl rfl rfl (bne_eq_false_iff_eq.mpr c2)) <| .no (gF rfl rfl rfl (bne_eq_false_iff_eq.mpr c2)) <| .op 0 rfl (pkFV rfl (bne_eq_false_iff_eq.mpr c2) rfl) <| .op 0 rfl (asV rfl) <| .nilL _ ⟨cB rfl (mAndF (bnotF (beq_iff_eq.mpr c2))), trivial⟩)
      · exact (.op 0 rfl (faP fa25_0 rfl) <| .op 0 rfl (ldP rfl sz22 ag22 rfl) <| .op 0 rfl (neI rfl rfl) <| .op 0 rfl (mvV rfl) <| .op 0 (gT rfl rfl rfl (bne_iff_ne.mpr c2)) (ldG rfl sz48 ag48 rfl) <| .callI (gT rfl rfl rfl (bne_iff_ne.mpr c2)) (callee_of rfl go69 rfl) (.pure rfl rfl (r05_plain.D (g3_5 c2))) <| .op 0 rfl (pkTV rfl (bne_iff_ne.mpr c2) rfl) <| .op 0 rfl (asV rfl) <| .nilL _ ⟨cB rfl (mAndT (bnotT (beq_eq_false_iff_ne.mpr c2)) rfl), trivial⟩)
    replace h := h.symm
    subst h
    refine .keepL [] [(4, .val (.bool ((!(a0.Tag == 5)) && t3_5)))] [] (by decide) (by decide) ⟨.free rfl rfl, trivial⟩ trivial ?_
    exact .ret rfl
  · rw [if_neg c1] at h
    refine .condF rfl (Bool.eq_false_iff.mpr c1) ?_
    refine .skip ?_
    refine .seq ?_
    refine .seq ?_
    refine .reg0 rfl (.op 0 rfl (faP fa25_0 rfl) <| .op 0 rfl (ldP rfl sz22 ag22 rfl) <| .nil0) ?_
    refine .block ?_
    refine .seq ?_
    refine .reg0 rfl (.op 0 rfl (eqI rfl rfl) <| .op 0 rfl (asV rfl) <| .nil0) ?_
    by_cases c3 : a0.Tag = 1
    · rw [if_pos c3] at h
      refine .condT rfl (beq_iff_eq.mpr c3) ?_
      refine .seq ?_
      obtain ⟨t6_1, g6_1, h⟩ := h
      refine .reg0 rfl (.op 0 rfl (ldG rfl sz48 ag48 rfl) <| .callI rfl (callee_of rfl go69 rfl) (.pure rfl rfl (r05_plain.D g6_1)) <| .op 0 rfl (asV rfl) <| .nil0) ?_
      replace h := h.symm
      subst h
      refine .keepL [] [(4, .val (.bool t6_1))] [] (by decide) (by decide) ⟨.free rfl rfl, trivial⟩ trivial ?_
      exact .ret rfl
    · rw [if_neg c3] at h
      refine .condF rfl (beq_eq_false_iff_ne.mpr c3) ?_
      refine .seq ?_
      refine .reg0 rfl (.op 0 rfl (eqI rfl rfl) <| .op 0 rfl (asV rfl) <| .nil0) ?_
      by_cases c4 : a0.Tag = 2
      · rw [if_pos c4] at h
        refine .condT rfl (beq_iff_eq.mpr c4) ?_
        refine .seq ?_
        obtain ⟨t8_1, g8_1, h⟩ := h
        refine .reg0 (e1 := listEnv [(4, .val (.bool (t8_1 && ((decide (a1.Cost ≥ 0)) && (decide (a1.Cost ≤ a0.Dim))))))]) (H1 := [⟨3, [(TSpace.lit a0)], 0, none⟩, ⟨6, [(TWeight.lit a1)], 0, none⟩]) rfl ?_ ?_
        · by_cases c5 : t8_1 = true
          · by_cases c6 : a1.Cost ≥ 0
            · exact (.op 0 rfl (ldG rfl sz48 ag48 rfl) <| .callI rfl (callee_of rfl go69 rfl) (.pure rfl rfl (r05_plain.D g8_1)) <| .op 0 rfl (mvV rfl) <| .op 0 (gT rfl rfl rfl c5) (faP fa48_1 rfl) <| .op 0 (gT rfl rfl rfl c5) (ldP rfl sz3 ag3 rfl) <| .op 0 (gT rfl rfl rfl c5) (geI rfl rfl) <| .op 0 rfl (pkTV rfl c5 rfl) <| .op 0 rfl (mvV rfl) <| .op 0 (gT rfl rfl rfl (decide_eq_true c6)) (faP fa48_1 rfl) <| .op 0 (gT rfl rfl rfl (decide_eq_true c6)) (ldP rfl sz3 ag3 rfl) <| .op 0 (gT rfl rfl rfl (decide_eq_true c6)) (faP fa25_1 rfl) <| .op 0 (gT rfl rfl rfl (decide_eq_true c6)) (ldP rfl sz3 ag3 rfl) <| .op 0 (gT rfl rfl rfl (decide_eq_true c6)) (leI rfl rfl) <| .op 0 rfl (pkTV rfl (decide_eq_true c6) rfl) <| .op 0 rfl (asV rfl) <| .nilL _ ⟨cB rfl (mAndT c5 (mAndT (decide_eq_true c6) rfl)), trivial⟩)
            · exact (.op 0 rfl (ldG rfl sz48 ag48 rfl) <| .callI rfl (callee_of rfl go69 rfl) (.pure rfl rfl (r05_plain.D g8_1)) <| .op 0 rfl (mvV rfl) <| .op 0 (gT rfl rfl rfl c5) (faP fa48_1 rfl) <| .op 0 (gT rfl rfl rfl c5) (ldP rfl sz3 ag3 rfl) <| .op 0 (gT rfl rfl rfl c5) (geI rfl rfl) <| .op 0 rfl (pkTV rfl c5 rfl) <| .op 0 rfl (mvV rfl) <| .no (gF rfl rfl rfl (decide_eq_false c6)) <| .no (gF rfl rfl rfl (decide_eq_false c6)) <| .no (gF rfl rfl rfl (decide_eq_false c6)) <| .no (gF rfl rfl rfl (decide_eq_false c6)) <| .no (gF rfl rfl rfl (decide_eq_false c6)) <| .op 0 rfl (pkFV rfl (decide_eq_false c6) rfl) <| .op 0 rfl (asV rfl) <| .nilL _ ⟨cB rfl (mAndT c5 (mAndF (decide_eq_false c6))), trivial⟩)
          · exact (.op 0 rfl (ldG rfl sz48 ag48 rfl) <| .callI rfl (callee_of rfl go69 rfl) (.pure rfl rfl (r05_plain.D g8_1)) <| .op 0 rfl (mvV rfl) <| .no (gF rfl rfl rfl (Bool.eq_false_iff.mpr c5)) <| .no (gF rfl rfl rfl (Bool.eq_false_iff.mpr c5)) <| .no (gF rfl rfl rfl (Bool.eq_false_iff.mpr c5)) <| .op 0 rfl (pkFV rfl (Bool.eq_false_iff.mpr c5) rfl) <| .op 0 rfl (mvV rfl) <| .no (gF rfl rfl rfl rfl) <| .no (gF rfl rfl rfl rfl) <| .no (gF rfl rfl rfl rfl) <| .no (gF rfl rfl rfl rfl) <| .no (gF rfl rfl rfl rfl) <| .op 0 rfl (pkFV rfl rfl rfl) <| .op 0 rfl (asV rfl) <| .nilL _ ⟨cB rfl (mAndF (Bool.eq_false_iff.mpr c5)), trivial⟩)
        replace h := h.symm
        subst h
        refine .keepL [] [(4, .val (.bool (t8_1 && ((decide (a1.Cost ≥ 0)) && (decide (a1.Cost ≤ a0.Dim))))))] [] (by decide) (by decide) ⟨.free rfl rfl, trivial⟩ trivial ?_
        exact .ret rfl
      · rw [if_neg c4] at h
        refine .condF rfl (beq_eq_false_iff_ne.mpr c4) ?_
        refine .seq ?_
        refine .reg0 rfl (.op 0 rfl (eqI rfl rfl) <| .op 0 rfl (asV rfl) <| .nil0) ?_
        by_cases c7 : a0.Tag = 3
        · rw [if_pos c7] at h
          refine .condT rfl (beq_iff_eq.mpr c7) ?_
          refine .seq ?_
          obtain ⟨t10_1, g10_1, h⟩ := h
          obtain ⟨t10_7, g10_7, h⟩ := h
          refine .reg0 (e1 := listEnv [(4, .val (.bool (t10_1 && (t10_7 == 0))))]) (H1 := [⟨3, [(TSpace.lit a0)], 0, none⟩, ⟨6, [(TWeight.lit a1)], 0, none⟩]) rfl ?_ ?_
          · by_cases c8 : t10_1 = true
            · exact (.op 0 rfl (ldG rfl sz48 ag48 rfl) <| .callI rfl (callee_of rfl go69 rfl) (.pure rfl rfl (r05_plain.D g10_1)) <| .op 0 rfl (mvV rfl) <| .op 0 (gT rfl rfl rfl c8) (faP fa25_1 rfl) <| .op 0 (gT rfl rfl rfl c8) (ldP rfl sz3 ag3 rfl) <| .op 0 (gT rfl rfl rfl c8) (faP fa48_2 rfl) <| .op 0 (gT rfl rfl rfl c8) (ldG rfl sz44 ag44 rfl) <| .callI (gT rfl rfl rfl c8) (callee_of rfl go70 rfl) (.pure rfl rfl (r03_Check.D (g10_7 c8))) <| .op 0 (gT rfl rfl rfl c8) (eqI rfl rfl) <| .op 0 rfl (pkTV rfl c8 rfl) <| .op 0 rfl (asV rfl) <| .nilL _ ⟨cB rfl (mAndT c8 rfl), trivial⟩)
            · exact (.op 0 rfl (ldG rfl sz48 ag48 rfl) <| .callI rfl (callee_of rfl go69 rfl) (.pure rfl rfl (r05_plain.D g10_1)) <| .op 0 rfl (mvV rfl) <| .no (gF rfl rfl rfl (Bool.eq_false_iff.mpr c8)) <| .no (gF rfl rfl rfl (Bool.eq_false_iff.mpr c8)) <| .no (gF rfl rfl rfl (Bool.eq_false_iff.mpr c8)) <| .no (gF rfl rfl rfl (Bool.eq_false_iff.mpr c8)) <| .no (gF rfl rfl rfl (Bool.eq_false_iff.mpr c8)) <| .no (gF rfl rfl rfl (Bool.eq_false_iff.mpr c8)) <| .op 0 rfl (pkFV rfl (Bool.eq_false_iff.mpr c8) rfl) <| .op 0 rfl (asV rfl) <| .nilL _ ⟨cB rfl (mAndF (Bool.eq_false_iff.mpr c8)), trivial⟩)
          replace h := h.symm
          subst h
          refine .keepL [] [(4, .val (.bool (t10_1 && (t10_7 == 0))))] [] (by decide) (by decide) ⟨.free rfl rfl, trivial⟩ trivial ?_
          exact .ret rfl
        · rw [if_neg c7] at h
          refine .condF rfl (beq_eq_false_iff_ne.mpr c7) ?_
          refine .seq ?_
          refine .reg0 rfl (.op 0 rfl (eqI rfl rfl) <| .op 0 rfl (asV rfl) <| .nil0) ?_
          by_cases c9 : a0.Tag = 4
          · rw [if_pos c9] at h
            refine .condT rfl (beq_iff_eq.mpr c9) ?_
            refine .seq ?_
            refine .seq ?_
            obtain ⟨t12_1, g12_1, h⟩ := h
            refine .reg0 (e1 := listEnv [(2, .ptr 0 1 3 0 0), (3, .ptr 1 1 6 0 0), (61, .val (.bool ((!t12_1) || ((a1.Cells.length : Int) != a0.Dim))))]) (H1 := [⟨3, [(TSpace.lit a0)], 0, none⟩, ⟨6, [(TWeight.lit a1)], 0, none⟩]) rfl ?_ ?_
            · by_cases c10 : t12_1 = true
              · exact (.op 0 rfl (ldG rfl sz48 ag48 rfl) <| .callI rfl (callee_of rfl go69 rfl) (.pure rfl rfl (r05_plain.D g12_1)) <| .op 0 rfl (notB rfl) <| .op 0 rfl (mvV rfl) <| .op 0 (gT rfl rfl rfl (bnotF c10)) (faP fa48_3 rfl) <| .op 0 (gT rfl rfl rfl (bnotF c10)) (ldP rfl sz45 ag45 rfl) <| .op 0 (gT rfl rfl rfl (bnotF c10)) (lnR (l := a1.Cells) sl45 rfl) <| .op 0 (gT rfl rfl rfl (bnotF c10)) (faP fa25_1 rfl) <| .op 0 (gT rfl rfl rfl (bnotF c10)) (ldP rfl sz3 ag3 rfl) <| .op 0 (gT rfl rfl rfl (bnotF c10)) (neI rfl rfl) <| .op 0 rfl (pkFV rfl (bnotF c10) rfl) <| .nilL _ ⟨.ptr rfl, .ptr rfl, cB rfl (mOrF (bnotF c10) rfl), trivial⟩)
              · exact (.op 0 rfl (ldG rfl sz48 ag48 rfl) <| .callI rfl (callee_of rfl go69 rfl) (.pure rfl rfl (r05_plain.D g12_1)) <| .op 0 rfl (notB rfl) <| .op 0 rfl (mvV rfl) <| .no (gF rfl rfl rfl (bnotT (Bool.eq_false_iff.mpr c10))) <| .no (gF rfl rfl rfl (bnotT (Bool.eq_false_iff.mpr c10))) <| .no (gF rfl rfl rfl (bnotT (Bool.eq_false_iff.mpr c10))) <| .no (gF rfl rfl rfl (bnotT (Bool.eq_false_iff.mpr c10))) <| .no (gF rfl rfl rfl (bnotT (Bool.eq_false_iff.mpr c10))) <| .no (gF rfl rfl rfl (bnotT (Bool.eq_false_iff.mpr c10))) <| .op 0 rfl (pkTV rfl (bnotT (Bool.eq_false_iff.mpr c10)) rfl) <| .nilL _ ⟨.ptr rfl, .ptr rfl, cB rfl (mOrT (bnotT (Bool.eq_false_iff.mpr c10))), trivial⟩)
            by_cases c11 : ((!t12_1) || ((a1.Cells.length : Int) != a0.Dim)) = true
            · rw [if_pos c11] at h
              refine .condT rfl c11 ?_
              refine .seq ?_
              refine .reg0 rfl (.op 0 rfl (asV rfl) <| .nil0) ?_
              replace h := h.symm
              subst h
              refine .keepL [] [(4, .val (.bool false))] [] (by decide) (by decide) ⟨.free rfl rfl, trivial⟩ trivial ?_
              exact .ret rfl
            · rw [if_neg c11] at h
              refine .condF rfl (Bool.eq_false_iff.mpr c11) ?_
              refine .skip ?_
              refine .seq ?_
              refine .seq ?_
              refine .reg0 rfl (.op 0 rfl (asV rfl) <| .nil0) ?_
              refine .block ?_
              refine .keepL [0, 1] [(2, .ptr 0 1 3 0 0), (3, .ptr 1 1 6 0 0), (5, .val (.int .i64 0))] [⟨3, [(TSpace.lit a0)], 0, none⟩, ⟨6, [(TWeight.lit a1)], 0, none⟩] (by decide) (by decide) ⟨.ptr rfl, .ptr rfl, .free rfl rfl, trivial⟩ ⟨⟨_, rfl, bcBox (all2_free rfl)⟩, ⟨_, rfl, bcBox (all2_free rfl)⟩, trivial⟩ ?_
              obtain ⟨o1, hL1, h⟩ := h
              refine .loopB (r05_is.b1 a0 a1) (fun x1 => listEnv [(2, .ptr 0 1 3 0 0), (3, .ptr 1 1 6 0 0), (5, .val (.int .i64 x1))]) (fun x1 => [⟨3, [(TSpace.lit a0)], 0, none⟩, ⟨6, [(TWeight.lit a1)], 0, none⟩]) (fun _ => listEnv []) (fun _ => []) hL1 (fun r_ => r = r_) ?_ ?_ ?_
              · rintro ⟨⟩ rfl
                try dsimp only [Fin.on] at h
                refine .seq ?_
                refine .reg0 rfl (.op 0 rfl (asV rfl) <| .nil0) ?_
                replace h := h.symm
                subst h
                refine .keepL [] [(4, .val (.bool true))] [] (by decide) (by decide) ⟨.free rfl rfl, trivial⟩ trivial ?_
                exact .ret rfl
              · rintro r_ rfl
                exact h
              · rintro x1 z1 h hn1 hx1 hr1
                dsimp only [r05_is.b1] at h
                refine .seq ?_
                refine .seq ?_
                refine .reg0 rfl (.op 0 rfl (mvV rfl) <| .op 0 rfl (faP fa48_3 rfl) <| .op 0 rfl (ldP rfl sz45 ag45 rfl) <| .op 0 rfl (lnR (l := a1.Cells) sl45 rfl) <| .op 0 rfl (ltI rfl rfl) <| .nil0) ?_
                by_cases c16 : x1 < (a1.Cells.length : Int)
                · rw [if_pos c16] at h
                  refine .condT rfl (decide_eq_true c16) ?_
                  refine .skip ?_
                  refine .seq ?_
                  refine .block ?_
                  refine .seq ?_
                  obtain ⟨g24_5, h⟩ := h
                  obtain ⟨t24_7, g24_7, h⟩ := h
                  refine .reg1 (e1 := listEnv [(2, .ptr 0 1 3 0 0), (3, .ptr 1 1 6 0 0), (5, .val (.int .i64 x1)), (77, .val (.bool (!t24_7)))]) (H1 := [⟨3, [(TSpace.lit a0)], 0, none⟩, ⟨6, [(TWeight.lit a1)], 0, none⟩]) rfl ?_ ?_
                  · exact .drawM [(8, 77, .val (.bool (!t24_7))), (7, 76, .val (.bool t24_7)), (6, 75, .agg (TCell.lit (rdl a1.Cells x1))), (5, 74, .cptr (TCell.lit (rdl a1.Cells x1)) 0), (4, 73, .val (.int .i64 x1)), (3, 72, .rows (a1.Cells.map TCell.cells)), (2, 71, .ptr 1 1 6 0 4), (1, 70, .val (.int .i64 a0.Dim)), (0, 69, .ptr 0 1 3 0 1)] [] [[], [0], [], [2], [], [3, 2, 4], [5, 3, 2, 4], [1, 0, 6, 5, 3, 2, 4], [7, 1, 0, 6, 5, 3, 2, 4]] (by rfl) (by rfl) (by rfl) (by exact ⟨fun S hS hD hn => .one 0 hS hD hn rfl rfl (faP fa25_1 rfl) rfl rfl rfl, fun S hS hD hn => .one 0 hS hD hn rfl rfl (ldP rfl sz3 ag3 rfl) rfl rfl rfl, fun S hS hD hn => .one 0 hS hD hn rfl rfl (faP fa48_3 rfl) rfl rfl rfl, fun S hS hD hn => .one 0 hS hD hn rfl rfl (ldP rfl sz45 ag45 rfl) rfl rfl rfl, fun S hS hD hn => .one 0 hS hD hn rfl rfl (mvV rfl) rfl rfl rfl, fun S hS hD hn => .one 0 hS hD hn rfl rfl (ixR (l := a1.Cells) (lit := TCell.lit) sl45 rfl rfl (fun _ => rfl) g24_5.1 g24_5.2) rfl rfl rfl, fun S hS hD hn => .one 0 hS hD hn rfl rfl (ldCG rfl sz72 ag72 rfl) rfl rfl rfl, fun S hS hD hn => .oneI hS hD hn rfl rfl (callee_of rfl go71 rfl) (.pure rfl rfl (r05_cell.D g24_7)) rfl rfl rfl, fun S hS hD hn => .one 0 hS hD hn rfl rfl (notB rfl) rfl rfl rfl, trivial⟩) _ (by exact ⟨.ptr rfl, .ptr rfl, .free rfl rfl, .free rfl rfl, trivial⟩) (by rfl)
                  by_cases c17 : t24_7 = true
                  · rw [if_pos c17] at h
                    refine .condF rfl (bnotF c17) ?_
                    refine .skip ?_
                    refine .inBlock ?_
                    refine .reg0 rfl (.op 0 rfl (mvV rfl) <| .op 0 rfl (addI rfl rfl) <| .op 0 rfl (asV rfl) <| .nil0) ?_
                    refine .keepL [0, 1] [(2, .ptr 0 1 3 0 0), (3, .ptr 1 1 6 0 0), (5, .val (.int .i64 (IntKind.i64.wrap (x1 + 1))))] [⟨3, [(TSpace.lit a0)], 0, none⟩, ⟨6, [(TWeight.lit a1)], 0, none⟩] (by decide) (by decide) ⟨.ptr rfl, .ptr rfl, .free rfl rfl, trivial⟩ ⟨⟨_, rfl, bcBox (all2_free rfl)⟩, ⟨_, rfl, bcBox (all2_free rfl)⟩, trivial⟩ ?_
                    exact hn1 _ h
                  · rw [if_neg c17] at h
                    refine .condT rfl (bnotT (Bool.eq_false_iff.mpr c17)) ?_
                    refine .seq ?_
                    refine .reg0 rfl (.op 0 rfl (asV rfl) <| .nil0) ?_
                    have q3 := hr1 _ h
                    replace q3 := q3.symm
                    subst q3
                    refine .keepL [] [(4, .val (.bool false))] [] (by decide) (by decide) ⟨.free rfl rfl, trivial⟩ trivial ?_
                    exact .ret rfl
                · rw [if_neg c16] at h
                  refine .condF rfl (decide_eq_false c16) ?_
                  refine .exit rfl ?_
                  refine .keepL [] [] [] (by decide) (by decide) trivial trivial ?_
                  exact hx1 _ h
          · rw [if_neg c9] at h
            refine .condF rfl (beq_eq_false_iff_ne.mpr c9) ?_
            refine .skip ?_
            refine .inBlock ?_
            refine .seq ?_
            obtain ⟨t28_1, g28_1, h⟩ := h
            obtain ⟨g28_11, h⟩ := h
            obtain ⟨g28_15, h⟩ := h
            obtain ⟨t28_17, g28_17, h⟩ := h
            obtain ⟨g28_22, h⟩ := h
            obtain ⟨g28_26, h⟩ := h
            obtain ⟨t28_28, g28_28, h⟩ := h
            refine .reg1 (e1 := listEnv [(4, .val (.bool (t28_1 && (((a1.Parts.length : Int) == 2) && (t28_17 && t28_28)))))]) (H1 := [⟨3, [(TSpace.lit a0)], 0, none⟩, ⟨6, [(TWeight.lit a1)], 0, none⟩]) rfl ?_ ?_
            · by_cases c18 : t28_1 = true
              · by_cases c19 : (a1.Parts.length : Int) = 2
                · by_cases c20 : t28_17 = true
                  · exact .drawM [(30, 4, .val (.bool t28_28)), (29, 107, .val (.bool t28_28)), (28, 106, .val (.bool t28_28)), (27, 105, .agg (TWeight.lit (rdl a1.Parts 1))), (26, 104, .cptr (TWeight.lit (rdl a1.Parts 1)) 0), (25, 103, .rows (a1.Parts.map TWeight.cells)), (24, 102, .ptr 1 1 6 0 5), (23, 101, .agg (TSpace.lit (rdl a0.Parts 1))), (22, 100, .cptr (TSpace.lit (rdl a0.Parts 1)) 0), (21, 99, .rows (a0.Parts.map TSpace.cells)), (20, 98, .ptr 0 1 3 0 2), (19, 97, .val (.bool t28_17)), (18, 96, .val (.bool t28_17)), (17, 95, .val (.bool t28_17)), (16, 94, .agg (TWeight.lit (rdl a1.Parts 0))), (15, 93, .cptr (TWeight.lit (rdl a1.Parts 0)) 0), (14, 92, .rows (a1.Parts.map TWeight.cells)), (13, 91, .ptr 1 1 6 0 5), (12, 90, .agg (TSpace.lit (rdl a0.Parts 0))), (11, 89, .cptr (TSpace.lit (rdl a0.Parts 0)) 0), (10, 88, .rows (a0.Parts.map TSpace.cells)), (9, 87, .ptr 0 1 3 0 2), (8, 86, .val (.bool ((a1.Parts.length : Int) == 2))), (7, 85, .val (.bool ((a1.Parts.length : Int) == 2))), (6, 84, .val (.bool ((a1.Parts.length : Int) == 2))), (5, 83, .val (.int .i64 (a1.Parts.length : Int))), (4, 82, .rows (a1.Parts.map TWeight.cells)), (3, 81, .ptr 1 1 6 0 5), (2, 80, .val (.bool t28_1)), (1, 79, .val (.bool t28_1)), (0, 78, .agg (TWeight.lit a1))] [] [[], [0], [1, 0], [2, 1, 0], [3, 2, 1, 0], [4, 3, 2, 1, 0], [5, 4, 3, 2, 1, 0], [2, 1, 0, 6, 5, 4, 3], [7, 2, 1, 0, 6, 5, 4, 3], [8, 7, 2, 1, 0, 6, 5, 4, 3], [9, 8, 7, 2, 1, 0, 6, 5, 4, 3], [10, 9, 8, 7, 2, 1, 0, 6, 5, 4, 3], [11, 10, 9, 8, 7, 2, 1, 0, 6, 5, 4, 3], [8, 7, 2, 1, 0, 6, 5, 4, 3], [13, 8, 7, 2, 1, 0, 6, 5, 4, 3], [14, 13, 8, 7, 2, 1, 0, 6, 5, 4, 3], [15, 14, 13, 8, 7, 2, 1, 0, 6, 5, 4, 3], [12, 11, 10, 9, 8, 7, 2, 1, 0, 6, 5, 4, 3, 16, 15, 14, 13], [8, 7, 2, 1, 0, 6, 5, 4, 3, 17, 12, 11, 10, 9, 16, 15, 14, 13], [18, 8, 7, 2, 1, 0, 6, 5, 4, 3, 17, 12, 11, 10, 9, 16, 15, 14, 13], [19, 18, 8, 7, 2, 1, 0, 6, 5, 4, 3, 17, 12, 11, 10, 9, 16, 15, 14, 13], [20, 19, 18, 8, 7, 2, 1, 0, 6, 5, 4, 3, 17, 12, 11, 10, 9, 16, 15, 14, 13], [21, 20, 19, 18, 8, 7, 2, 1, 0, 6, 5, 4, 3, 17, 12, 11, 10, 9, 16, 15, 14, 13], [22, 21, 20, 19, 18, 8, 7, 2, 1, 0, 6, 5, 4, 3, 17, 12, 11, 10, 9, 16, 15, 14, 13], [19, 18, 8, 7, 2, 1, 0, 6, 5, 4, 3, 17, 12, 11, 10, 9, 16, 15, 14, 13], [24, 19, 18, 8, 7, 2, 1, 0, 6, 5, 4, 3, 17, 12, 11, 10, 9, 16, 15, 14, 13], [25, 24, 19, 18, 8, 7, 2, 1, 0, 6, 5, 4, 3, 17, 12, 11, 10, 9, 16, 15, 14, 13], [26, 25, 24, 19, 18, 8, 7, 2, 1, 0, 6, 5, 4, 3, 17, 12, 11, 10, 9, 16, 15, 14, 13], [23, 22, 21, 20, 19, 18, 8, 7, 2, 1, 0, 6, 5, 4, 3, 17, 12, 11, 10, 9, 16, 15, 14, 13, 27, 26, 25, 24], [19, 18, 8, 7, 2, 1, 0, 6, 5, 4, 3, 17, 12, 11, 10, 9, 16, 15, 14, 13, 28, 23, 22, 21, 20, 27, 26, 25, 24], [29, 19, 18, 8, 7, 2, 1, 0, 6, 5, 4, 3, 17, 12, 11, 10, 9, 16, 15, 14, 13, 28, 23, 22, 21, 20, 27, 26, 25, 24]] (by rfl) (by rfl) (by rfl) (by exact ⟨fun S hS hD hn => .one 0 hS hD hn rfl rfl (ldG rfl sz48 ag48 rfl) rfl rfl rfl, fun S hS hD hn => .oneI hS hD hn rfl rfl (callee_of rfl go69 rfl) (.pure rfl rfl (r05_plain.D g28_1)) rfl rfl rfl, fun S hS hD hn => .one 0 hS hD hn rfl rfl (mvV rfl) rfl rfl rfl, fun S hS hD hn => .one 0 hS hD hn (gT rfl rfl rfl c18) rfl (faP fa48_4 rfl) rfl rfl rfl, fun S hS hD hn => .one 0 hS hD hn (gT rfl rfl rfl c18) rfl (ldP rfl sz46 ag46 rfl) rfl rfl rfl, fun S hS hD hn => .one 0 hS hD hn (gT rfl rfl rfl c18) rfl (lnR (l := a1.Parts) sl46 rfl) rfl rfl rfl, fun S hS hD hn => .one 0 hS hD hn (gT rfl rfl rfl c18) rfl (eqI rfl rfl) rfl rfl rfl, fun S hS hD hn => .one 0 hS hD hn rfl rfl (pkTV rfl c18 rfl) rfl rfl rfl, fun S hS hD hn => .one 0 hS hD hn rfl rfl (mvV rfl) rfl rfl rfl, fun S hS hD hn => .one 0 hS hD hn (gT rfl rfl rfl (beq_iff_eq.mpr c19)) rfl (faP fa25_2 rfl) rfl rfl rfl, fun S hS hD hn => .one 0 hS hD hn (gT rfl rfl rfl (beq_iff_eq.mpr c19)) rfl (ldP rfl sz23 ag23 rfl) rfl rfl rfl, fun S hS hD hn => .one 0 hS hD hn (gT rfl rfl rfl (beq_iff_eq.mpr c19)) rfl (ixR (l := a0.Parts) (lit := TSpace.lit) sl23 rfl rfl TSpace.cells_lit (g28_11 c18 c19).1 (g28_11 c18 c19).2) rfl rfl rfl, fun S hS hD hn => .one 0 hS hD hn (gT rfl rfl rfl (beq_iff_eq.mpr c19)) rfl (ldCG rfl sz25 ag25 rfl) rfl rfl rfl, fun S hS hD hn => .one 0 hS hD hn (gT rfl rfl rfl (beq_iff_eq.mpr c19)) rfl (faP fa48_4 rfl) rfl rfl rfl, fun S hS hD hn => .one 0 hS hD hn (gT rfl rfl rfl (beq_iff_eq.mpr c19)) rfl (ldP rfl sz46 ag46 rfl) rfl rfl rfl, fun S hS hD hn => .one 0 hS hD hn (gT rfl rfl rfl (beq_iff_eq.mpr c19)) rfl (ixR (l := a1.Parts) (lit := TWeight.lit) sl46 rfl rfl TWeight.cells_lit (g28_15 c18 c19).1 (g28_15 c18 c19).2) rfl rfl rfl, fun S hS hD hn => .one 0 hS hD hn (gT rfl rfl rfl (beq_iff_eq.mpr c19)) rfl (ldCG rfl sz48 ag48 rfl) rfl rfl rfl, fun S hS hD hn => .oneI hS hD hn (gT rfl rfl rfl (beq_iff_eq.mpr c19)) rfl (callee_of rfl go54 rfl) (.pure rfl rfl (hs54 _ _ _ (g28_17 c18 c19))) rfl rfl rfl, fun S hS hD hn => .one 0 hS hD hn rfl rfl (pkTV rfl (beq_iff_eq.mpr c19) rfl) rfl rfl rfl, fun S hS hD hn => .one 0 hS hD hn rfl rfl (mvV rfl) rfl rfl rfl, fun S hS hD hn => .one 0 hS hD hn (gT rfl rfl rfl c20) rfl (faP fa25_2 rfl) rfl rfl rfl, fun S hS hD hn => .one 0 hS hD hn (gT rfl rfl rfl c20) rfl (ldP rfl sz23 ag23 rfl) rfl rfl rfl, fun S hS hD hn => .one 0 hS hD hn (gT rfl rfl rfl c20) rfl (ixR (l := a0.Parts) (lit := TSpace.lit) sl23 rfl rfl TSpace.cells_lit (g28_22 c18 c19 c20).1 (g28_22 c18 c19 c20).2) rfl rfl rfl, fun S hS hD hn => .one 0 hS hD hn (gT rfl rfl rfl c20) rfl (ldCG rfl sz25 ag25 rfl) rfl rfl rfl, fun S hS hD hn => .one 0 hS hD hn (gT rfl rfl rfl c20) rfl (faP fa48_4 rfl) rfl rfl rfl, fun S hS hD hn => .one 0 hS hD hn (gT rfl rfl rfl c20) rfl (ldP rfl sz46 ag46 rfl) rfl rfl rfl, fun S hS hD hn => .one 0 hS hD hn (gT rfl rfl rfl c20) rfl (ixR (l := a1.Parts) (lit := TWeight.lit) sl46 rfl rfl TWeight.cells_lit (g28_26 c18 c19 c20).1 (g28_26 c18 c19 c20).2) rfl rfl rfl, fun S hS hD hn => .one 0 hS hD hn (gT rfl rfl rfl c20) rfl (ldCG rfl sz48 ag48 rfl) rfl rfl rfl, fun S hS hD hn => .oneI hS hD hn (gT rfl rfl rfl c20) rfl (callee_of rfl go54 rfl) (.pure rfl rfl (hs54 _ _ _ (g28_28 c18 c19 c20))) rfl rfl rfl, fun S hS hD hn => .one 0 hS hD hn rfl rfl (pkTV rfl c20 rfl) rfl rfl rfl, fun S hS hD hn => .one 0 hS hD hn rfl rfl (asV rfl) rfl rfl rfl, trivial⟩) _ (by exact ⟨cB rfl (mAndT c18 (mAndT (beq_iff_eq.mpr c19) (mAndT c20 rfl))), trivial⟩) (by rfl)
                  · exact .drawM [(30, 4, .val (.bool false)), (29, 107, .val (.bool false)), (28, 106, .val undef), (27, 105, .val undef), (26, 104, .val undef), (25, 103, .val undef), (24, 102, .val undef), (23, 101, .val undef), (22, 100, .val undef), (21, 99, .val undef), (20, 98, .val undef), (19, 97, .val (.bool t28_17)), (18, 96, .val (.bool t28_17)), (17, 95, .val (.bool t28_17)), (16, 94, .agg (TWeight.lit (rdl a1.Parts 0))), (15, 93, .cptr (TWeight.lit (rdl a1.Parts 0)) 0), (14, 92, .rows (a1.Parts.map TWeight.cells)), (13, 91, .ptr 1 1 6 0 5), (12, 90, .agg (TSpace.lit (rdl a0.Parts 0))), (11, 89, .cptr (TSpace.lit (rdl a0.Parts 0)) 0), (10, 88, .rows (a0.Parts.map TSpace.cells)), (9, 87, .ptr 0 1 3 0 2), (8, 86, .val (.bool ((a1.Parts.length : Int) == 2))), (7, 85, .val (.bool ((a1.Parts.length : Int) == 2))), (6, 84, .val (.bool ((a1.Parts.length : Int) == 2))), (5, 83, .val (.int .i64 (a1.Parts.length : Int))), (4, 82, .rows (a1.Parts.map TWeight.cells)), (3, 81, .ptr 1 1 6 0 5), (2, 80, .val (.bool t28_1)), (1, 79, .val (.bool t28_1)), (0, 78, .agg (TWeight.lit a1))] [] [[], [0], [1, 0], [2, 1, 0], [3, 2, 1, 0], [4, 3, 2, 1, 0], [5, 4, 3, 2, 1, 0], [2, 1, 0, 6, 5, 4, 3], [7, 2, 1, 0, 6, 5, 4, 3], [8, 7, 2, 1, 0, 6, 5, 4, 3], [9, 8, 7, 2, 1, 0, 6, 5, 4, 3], [10, 9, 8, 7, 2, 1, 0, 6, 5, 4, 3], [11, 10, 9, 8, 7, 2, 1, 0, 6, 5, 4, 3], [8, 7, 2, 1, 0, 6, 5, 4, 3], [13, 8, 7, 2, 1, 0, 6, 5, 4, 3], [14, 13, 8, 7, 2, 1, 0, 6, 5, 4, 3], [15, 14, 13, 8, 7, 2, 1, 0, 6, 5, 4, 3], [12, 11, 10, 9, 8, 7, 2, 1, 0, 6, 5, 4, 3, 16, 15, 14, 13], [8, 7, 2, 1, 0, 6, 5, 4, 3, 17, 12, 11, 10, 9, 16, 15, 14, 13], [18, 8, 7, 2, 1, 0, 6, 5, 4, 3, 17, 12, 11, 10, 9, 16, 15, 14, 13], [19, 18, 8, 7, 2, 1, 0, 6, 5, 4, 3, 17, 12, 11, 10, 9, 16, 15, 14, 13], [20, 19, 18, 8, 7, 2, 1, 0, 6, 5, 4, 3, 17, 12, 11, 10, 9, 16, 15, 14, 13], [21, 20, 19, 18, 8, 7, 2, 1, 0, 6, 5, 4, 3, 17, 12, 11, 10, 9, 16, 15, 14, 13], [22, 21, 20, 19, 18, 8, 7, 2, 1, 0, 6, 5, 4, 3, 17, 12, 11, 10, 9, 16, 15, 14, 13], [19, 18, 8, 7, 2, 1, 0, 6, 5, 4, 3, 17, 12, 11, 10, 9, 16, 15, 14, 13], [24, 19, 18, 8, 7, 2, 1, 0, 6, 5, 4, 3, 17, 12, 11, 10, 9, 16, 15, 14, 13], [25, 24, 19, 18, 8, 7, 2, 1, 0, 6, 5, 4, 3, 17, 12, 11, 10, 9, 16, 15, 14, 13], [26, 25, 24, 19, 18, 8, 7, 2, 1, 0, 6, 5, 4, 3, 17, 12, 11, 10, 9, 16, 15, 14, 13], [23, 22, 21, 20, 19, 18, 8, 7, 2, 1, 0, 6, 5, 4, 3, 17, 12, 11, 10, 9, 16, 15, 14, 13, 27, 26, 25, 24], [19, 18, 8, 7, 2, 1, 0, 6, 5, 4, 3, 17, 12, 11, 10, 9, 16, 15, 14, 13, 28, 23, 22, 21, 20, 27, 26, 25, 24], [29, 19, 18, 8, 7, 2, 1, 0, 6, 5, 4, 3, 17, 12, 11, 10, 9, 16, 15, 14, 13, 28, 23, 22, 21, 20, 27, 26, 25, 24]] (by rfl) (by rfl) (by rfl) (by exact ⟨fun S hS hD hn => .one 0 hS hD hn rfl rfl (ldG rfl sz48 ag48 rfl) rfl rfl rfl, fun S hS hD hn => .oneI hS hD hn rfl rfl (callee_of rfl go69 rfl) (.pure rfl rfl (r05_plain.D g28_1)) rfl rfl rfl, fun S hS hD hn => .one 0 hS hD hn rfl rfl (mvV rfl) rfl rfl rfl, fun S hS hD hn => .one 0 hS hD hn (gT rfl rfl rfl c18) rfl (faP fa48_4 rfl) rfl rfl rfl, fun S hS hD hn => .one 0 hS hD hn (gT rfl rfl rfl c18) rfl (ldP rfl sz46 ag46 rfl) rfl rfl rfl, fun S hS hD hn => .one 0 hS hD hn (gT rfl rfl rfl c18) rfl (lnR (l := a1.Parts) sl46 rfl) rfl rfl rfl, fun S hS hD hn => .one 0 hS hD hn (gT rfl rfl rfl c18) rfl (eqI rfl rfl) rfl rfl rfl, fun S hS hD hn => .one 0 hS hD hn rfl rfl (pkTV rfl c18 rfl) rfl rfl rfl, fun S hS hD hn => .one 0 hS hD hn rfl rfl (mvV rfl) rfl rfl rfl, fun S hS hD hn => .one 0 hS hD hn (gT rfl rfl rfl (beq_iff_eq.mpr c19)) rfl (faP fa25_2 rfl) rfl rfl rfl, fun S hS hD hn => .one 0 hS hD hn (gT rfl rfl rfl (beq_iff_eq.mpr c19)) rfl (ldP rfl sz23 ag23 rfl) rfl rfl rfl, fun S hS hD hn => .one 0 hS hD hn (gT rfl rfl rfl (beq_iff_eq.mpr c19)) rfl (ixR (l := a0.Parts) (lit := TSpace.lit) sl23 rfl rfl TSpace.cells_lit (g28_11 c18 c19).1 (g28_11 c18 c19).2) rfl rfl rfl, fun S hS hD hn => .one 0 hS hD hn (gT rfl rfl rfl (beq_iff_eq.mpr c19)) rfl (ldCG rfl sz25 ag25 rfl) rfl rfl rfl, fun S hS hD hn => .one 0 hS hD hn (gT rfl rfl rfl (beq_iff_eq.mpr c19)) rfl (faP fa48_4 rfl) rfl rfl rfl, fun S hS hD hn => .one 0 hS hD hn (gT rfl rfl rfl (beq_iff_eq.mpr c19)) rfl (ldP rfl sz46 ag46 rfl) rfl rfl rfl, fun S hS hD hn => .one 0 hS hD hn (gT rfl rfl rfl (beq_iff_eq.mpr c19)) rfl (ixR (l := a1.Parts) (lit := TWeight.lit) sl46 rfl rfl TWeight.cells_lit (g28_15 c18 c19).1 (g28_15 c18 c19).2) rfl rfl rfl, fun S hS hD hn => .one 0 hS hD hn (gT rfl rfl rfl (beq_iff_eq.mpr c19)) rfl (ldCG rfl sz48 ag48 rfl) rfl rfl rfl, fun S hS hD hn => .oneI hS hD hn (gT rfl rfl rfl (beq_iff_eq.mpr c19)) rfl (callee_of rfl go54 rfl) (.pure rfl rfl (hs54 _ _ _ (g28_17 c18 c19))) rfl rfl rfl, fun S hS hD hn => .one 0 hS hD hn rfl rfl (pkTV rfl (beq_iff_eq.mpr c19) rfl) rfl rfl rfl, fun S hS hD hn => .one 0 hS hD hn rfl rfl (mvV rfl) rfl rfl rfl, fun S hS hD hn => .oneNo hS hD (gF rfl rfl rfl (Bool.eq_false_iff.mpr c20)) rfl hn rfl rfl rfl, fun S hS hD hn => .oneNo hS hD (gF rfl rfl rfl (Bool.eq_false_iff.mpr c20)) rfl hn rfl rfl rfl, fun S hS hD hn => .oneNo hS hD (gF rfl rfl rfl (Bool.eq_false_iff.mpr c20)) rfl hn rfl rfl rfl, fun S hS hD hn => .oneNo hS hD (gF rfl rfl rfl (Bool.eq_false_iff.mpr c20)) rfl hn rfl rfl rfl, fun S hS hD hn => .oneNo hS hD (gF rfl rfl rfl (Bool.eq_false_iff.mpr c20)) rfl hn rfl rfl rfl, fun S hS hD hn => .oneNo hS hD (gF rfl rfl rfl (Bool.eq_false_iff.mpr c20)) rfl hn rfl rfl rfl, fun S hS hD hn => .oneNo hS hD (gF rfl rfl rfl (Bool.eq_false_iff.mpr c20)) rfl hn rfl rfl rfl, fun S hS hD hn => .oneNo hS hD (gF rfl rfl rfl (Bool.eq_false_iff.mpr c20)) rfl hn rfl rfl rfl, fun S hS hD hn => .oneNo hS hD (gF rfl rfl rfl (Bool.eq_false_iff.mpr c20)) rfl hn rfl rfl rfl, fun S hS hD hn => .one 0 hS hD hn rfl rfl (pkFV rfl (Bool.eq_false_iff.mpr c20) rfl) rfl rfl rfl, fun S hS hD hn => .one 0 hS hD hn rfl rfl (asV rfl) rfl rfl rfl, trivial⟩) _ (by exact ⟨cB rfl (mAndT c18 (mAndT (beq_iff_eq.mpr c19) (mAndF (Bool.eq_false_iff.mpr c20)))), trivial⟩) (by rfl)
                · exact .drawM [(30, 4, .val (.bool false)), (29, 107, .val (.bool false)), (28, 106, .val undef), (27, 105, .val undef), (26, 104, .val undef), (25, 103, .val undef), (24, 102, .val undef), (23, 101, .val undef), (22, 100, .val undef), (21, 99, .val undef), (20, 98, .val undef), (19, 97, .val (.bool false)), (18, 96, .val (.bool false)), (17, 95, .val undef), (16, 94, .val undef), (15, 93, .val undef), (14, 92, .val undef), (13, 91, .val undef), (12, 90, .val undef), (11, 89, .val undef), (10, 88, .val undef), (9, 87, .val undef), (8, 86, .val (.bool ((a1.Parts.length : Int) == 2))), (7, 85, .val (.bool ((a1.Parts.length : Int) == 2))), (6, 84, .val (.bool ((a1.Parts.length : Int) == 2))), (5, 83, .val (.int .i64 (a1.Parts.length : Int))), (4, 82, .rows (a1.Parts.map TWeight.cells)), (3, 81, .ptr 1 1 6 0 5), (2, 80, .val (.bool t28_1)), (1, 79, .val (.bool t28_1)), (0, 78, .agg (TWeight.lit a1))] [] [[], [0], [1, 0], [2, 1, 0], [3, 2, 1, 0], [4, 3, 2, 1, 0], [5, 4, 3, 2, 1, 0], [2, 1, 0, 6, 5, 4, 3], [7, 2, 1, 0, 6, 5, 4, 3], [8, 7, 2, 1, 0, 6, 5, 4, 3], [9, 8, 7, 2, 1, 0, 6, 5, 4, 3], [10, 9, 8, 7, 2, 1, 0, 6, 5, 4, 3], [11, 10, 9, 8, 7, 2, 1, 0, 6, 5, 4, 3], [8, 7, 2, 1, 0, 6, 5, 4, 3], [13, 8, 7, 2, 1, 0, 6, 5, 4, 3], [14, 13, 8, 7, 2, 1, 0, 6, 5, 4, 3], [15, 14, 13, 8, 7, 2, 1, 0, 6, 5, 4, 3], [12, 11, 10, 9, 8, 7, 2, 1, 0, 6, 5, 4, 3, 16, 15, 14, 13], [8, 7, 2, 1, 0, 6, 5, 4, 3, 17, 12, 11, 10, 9, 16, 15, 14, 13], [18, 8, 7, 2, 1, 0, 6, 5, 4, 3, 17, 12, 11, 10, 9, 16, 15, 14, 13], [19, 18, 8, 7, 2, 1, 0, 6, 5, 4, 3, 17, 12, 11, 10, 9, 16, 15, 14, 13], [20, 19, 18, 8, 7, 2, 1, 0, 6, 5, 4, 3, 17, 12, 11, 10, 9, 16, 15, 14, 13], [21, 20, 19, 18, 8, 7, 2, 1, 0, 6, 5, 4, 3, 17, 12, 11, 10, 9, 16, 15, 14, 13], [22, 21, 20, 19, 18, 8, 7, 2, 1, 0, 6, 5, 4, 3, 17, 12, 11, 10, 9, 16, 15, 14, 13], [19, 18, 8, 7, 2, 1, 0, 6, 5, 4, 3, 17, 12, 11, 10, 9, 16, 15, 14, 13], [24, 19, 18, 8, 7, 2, 1, 0, 6, 5, 4, 3, 17, 12, 11, 10, 9, 16, 15, 14, 13], [25, 24, 19, 18, 8, 7, 2, 1, 0, 6, 5, 4, 3, 17, 12, 11, 10, 9, 16, 15, 14, 13], [26, 25, 24, 19, 18, 8, 7, 2, 1, 0, 6, 5, 4, 3, 17, 12, 11, 10, 9, 16, 15, 14, 13], [23, 22, 21, 20, 19, 18, 8, 7, 2, 1, 0, 6, 5, 4, 3, 17, 12, 11, 10, 9, 16, 15, 14, 13, 27, 26, 25, 24], [19, 18, 8, 7, 2, 1, 0, 6, 5, 4, 3, 17, 12, 11, 10, 9, 16, 15, 14, 13, 28, 23, 22, 21, 20, 27, 26, 25, 24], [29, 19, 18, 8, 7, 2, 1, 0, 6, 5, 4, 3, 17, 12, 11, 10, 9, 16, 15, 14, 13, 28, 23, 22, 21, 20, 27, 26, 25, 24]] (by rfl) (by rfl) (by rfl) (by exact ⟨fun S hS hD hn => .one 0 hS hD hn rfl rfl (ldG rfl sz48 ag48 rfl) rfl rfl rfl, fun S hS hD hn => .oneI hS hD hn rfl rfl (callee_of rfl go69 rfl) (.pure rfl rfl (r05_plain.D g28_1)) rfl rfl rfl, fun S hS hD hn => .one 0 hS hD hn rfl rfl (mvV rfl) rfl rfl rfl, fun S hS hD hn => .one 0 hS hD hn (gT rfl rfl rfl c18) rfl (faP fa48_4 rfl) rfl rfl rfl, fun S hS hD hn => .one 0 hS hD hn (gT rfl rfl rfl c18) rfl (ldP rfl sz46 ag46 rfl) rfl rfl rfl, fun S hS hD hn => .one 0 hS hD hn (gT rfl rfl rfl c18) rfl (lnR (l := a1.Parts) sl46 rfl) rfl rfl rfl, fun S hS hD hn => .one 0 hS hD hn (gT rfl rfl rfl c18) rfl (eqI rfl rfl) rfl rfl rfl, fun S hS hD hn => .one 0 hS hD hn rfl rfl (pkTV rfl c18 rfl) rfl rfl rfl, fun S hS hD hn => .one 0 hS hD hn rfl rfl (mvV rfl) rfl rfl rfl, fun S hS hD hn => .oneNo hS hD (gF rfl rfl rfl (beq_eq_false_iff_ne.mpr c19)) rfl hn rfl rfl rfl, fun S hS hD hn => .oneNo hS hD (gF rfl rfl rfl (beq_eq_false_iff_ne.mpr c19)) rfl hn rfl rfl rfl, fun S hS hD hn => .oneNo hS hD (gF rfl rfl rfl (beq_eq_false_iff_ne.mpr c19)) rfl hn rfl rfl rfl, fun S hS hD hn => .oneNo hS hD (gF rfl rfl rfl (beq_eq_false_iff_ne.mpr c19)) rfl hn rfl rfl rfl, fun S hS hD hn => .oneNo hS hD (gF rfl rfl rfl (beq_eq_false_iff_ne.mpr c19)) rfl hn rfl rfl rfl, fun S hS hD hn => .oneNo hS hD (gF rfl rfl rfl (beq_eq_false_iff_ne.mpr c19)) rfl hn rfl rfl rfl, fun S hS hD hn => .oneNo hS hD (gF rfl rfl rfl (beq_eq_false_iff_ne.mpr c19)) rfl hn rfl rfl rfl, fun S hS hD hn => .oneNo hS hD (gF rfl rfl rfl (beq_eq_false_iff_ne.mpr c19)) rfl hn rfl rfl rfl, fun S hS hD hn => .oneNo hS hD (gF rfl rfl rfl (beq_eq_false_iff_ne.mpr c19)) rfl hn rfl rfl rfl, fun S hS hD hn => .one 0 hS hD hn rfl rfl (pkFV rfl (beq_eq_false_iff_ne.mpr c19) rfl) rfl rfl rfl, fun S hS hD hn => .one 0 hS hD hn rfl rfl (mvV rfl) rfl rfl rfl, fun S hS hD hn => .oneNo hS hD (gF rfl rfl rfl rfl) rfl hn rfl rfl rfl, fun S hS hD hn => .oneNo hS hD (gF rfl rfl rfl rfl) rfl hn rfl rfl rfl, fun S hS hD hn => .oneNo hS hD (gF rfl rfl rfl rfl) rfl hn rfl rfl rfl, fun S hS hD hn => .oneNo hS hD (gF rfl rfl rfl rfl) rfl hn rfl rfl rfl, fun S hS hD hn => .oneNo hS hD (gF rfl rfl rfl rfl) rfl hn rfl rfl rfl, fun S hS hD hn => .oneNo hS hD (gF rfl rfl rfl rfl) rfl hn rfl rfl rfl, fun S hS hD hn => .oneNo hS hD (gF rfl rfl rfl rfl) rfl hn rfl rfl rfl, fun S hS hD hn => .oneNo hS hD (gF rfl rfl rfl rfl) rfl hn rfl rfl rfl, fun S hS hD hn => .oneNo hS hD (gF rfl rfl rfl rfl) rfl hn rfl rfl rfl, fun S hS hD hn => .one 0 hS hD hn rfl rfl (pkFV rfl rfl rfl) rfl rfl rfl, fun S hS hD hn => .one 0 hS hD hn rfl rfl (asV rfl) rfl rfl rfl, trivial⟩) _ (by exact ⟨cB rfl (mAndT c18 (mAndF (beq_eq_false_iff_ne.mpr c19))), trivial⟩) (by rfl)
              · exact .drawM [(30, 4, .val (.bool false)), (29, 107, .val (.bool false)), (28, 106, .val undef), (27, 105, .val undef), (26, 104, .val undef), (25, 103, .val undef), (24, 102, .val undef), (23, 101, .val undef), (22, 100, .val undef), (21, 99, .val undef), (20, 98, .val undef), (19, 97, .val (.bool false)), (18, 96, .val (.bool false)), (17, 95, .val undef), (16, 94, .val undef), (15, 93, .val undef), (14, 92, .val undef), (13, 91, .val undef), (12, 90, .val undef), (11, 89, .val undef), (10, 88, .val undef), (9, 87, .val undef), (8, 86, .val (.bool false)), (7, 85, .val (.bool false)), (6, 84, .val undef), (5, 83, .val undef), (4, 82, .val undef), (3, 81, .val undef), (2, 80, .val (.bool t28_1)), (1, 79, .val (.bool t28_1)), (0, 78, .agg (TWeight.lit a1))] [] [[], [0], [1, 0], [2, 1, 0], [3, 2, 1, 0], [4, 3, 2, 1, 0], [5, 4, 3, 2, 1, 0], [2, 1, 0, 6, 5, 4, 3], [7, 2, 1, 0, 6, 5, 4, 3], [8, 7, 2, 1, 0, 6, 5, 4, 3], [9, 8, 7, 2, 1, 0, 6, 5, 4, 3], [10, 9, 8, 7, 2, 1, 0, 6, 5, 4, 3], [11, 10, 9, 8, 7, 2, 1, 0, 6, 5, 4, 3], [8, 7, 2, 1, 0, 6, 5, 4, 3], [13, 8, 7, 2, 1, 0, 6, 5, 4, 3], [14, 13, 8, 7, 2, 1, 0, 6, 5, 4, 3], [15, 14, 13, 8, 7, 2, 1, 0, 6, 5, 4, 3], [12, 11, 10, 9, 8, 7, 2, 1, 0, 6, 5, 4, 3, 16, 15, 14, 13], [8, 7, 2, 1, 0, 6, 5, 4, 3, 17, 12, 11, 10, 9, 16, 15, 14, 13], [18, 8, 7, 2, 1, 0, 6, 5, 4, 3, 17, 12, 11, 10, 9, 16, 15, 14, 13], [19, 18, 8, 7, 2, 1, 0, 6, 5, 4, 3, 17, 12, 11, 10, 9, 16, 15, 14, 13], [20, 19, 18, 8, 7, 2, 1, 0, 6, 5, 4, 3, 17, 12, 11, 10, 9, 16, 15, 14, 13], [21, 20, 19, 18, 8, 7, 2, 1, 0, 6, 5, 4, 3, 17, 12, 11, 10, 9, 16, 15, 14, 13], [22, 21, 20, 19, 18, 8, 7, 2, 1, 0, 6, 5, 4, 3, 17, 12, 11, 10, 9, 16, 15, 14, 13], [19, 18, 8, 7, 2, 1, 0, 6, 5, 4, 3, 17, 12, 11, 10, 9, 16, 15, 14, 13], [24, 19, 18, 8, 7, 2, 1, 0, 6, 5, 4, 3, 17, 12, 11, 10, 9, 16, 15, 14, 13], [25, 24, 19, 18, 8, 7, 2, 1, 0, 6, 5, 4, 3, 17, 12, 11, 10, 9, 16, 15, 14, 13], [26, 25, 24, 19, 18, 8, 7, 2, 1, 0, 6, 5, 4, 3, 17, 12, 11, 10, 9, 16, 15, 14, 13], [23, 22, 21, 20, 19, 18, 8, 7, 2, 1, 0, 6, 5, 4, 3, 17, 12, 11, 10, 9, 16, 15, 14, 13, 27, 26, 25, 24], [19, 18, 8, 7, 2, 1, 0, 6, 5, 4, 3, 17, 12, 11, 10, 9, 16, 15, 14, 13, 28, 23, 22, 21, 20, 27, 26, 25, 24], [29, 19, 18, 8, 7, 2, 1, 0, 6, 5, 4, 3, 17, 12, 11, 10, 9, 16, 15, 14, 13, 28, 23, 22, 21, 20, 27, 26, 25, 24]] (by rfl) (by rfl) (by rfl) (by exact ⟨fun S hS hD hn => .one 0 hS hD hn rfl rfl (ldG rfl sz48 ag48 rfl) rfl rfl rfl, fun S hS hD hn => .oneI hS hD hn rfl rfl (callee_of rfl go69 rfl) (.pure rfl rfl (r05_plain.D g28_1)) rfl rfl rfl, fun S hS hD hn => .one 0 hS hD hn rfl rfl (mvV rfl) rfl rfl rfl, fun S hS hD hn => .oneNo hS hD (gF rfl rfl rfl (Bool.eq_false_iff.mpr c18)) rfl hn rfl rfl rfl, fun S hS hD hn => .oneNo hS hD (gF rfl rfl rfl (Bool.eq_false_iff.mpr c18)) rfl hn rfl rfl rfl, fun S hS hD hn => .oneNo hS hD (gF rfl rfl rfl (Bool.eq_false_iff.mpr c18)) rfl hn rfl rfl rfl, fun S hS hD hn => .oneNo hS hD (gF rfl rfl rfl (Bool.eq_false_iff.mpr c18)) rfl hn rfl rfl rfl, fun S hS hD hn => .one 0 hS hD hn rfl rfl (pkFV rfl (Bool.eq_false_iff.mpr c18) rfl) rfl rfl rfl, fun S hS hD hn => .one 0 hS hD hn rfl rfl (mvV rfl) rfl rfl rfl, fun S hS hD hn => .oneNo hS hD (gF rfl rfl rfl rfl) rfl hn rfl rfl rfl, fun S hS hD hn => .oneNo hS hD (gF rfl rfl rfl rfl) rfl hn rfl rfl rfl, fun S hS hD hn => .oneNo hS hD (gF rfl rfl rfl rfl) rfl hn rfl rfl rfl, fun S hS hD hn => .oneNo hS hD (gF rfl rfl rfl rfl) rfl hn rfl rfl rfl, fun S hS hD hn => .oneNo hS hD (gF rfl rfl rfl rfl) rfl hn rfl rfl rfl, fun S hS hD hn => .oneNo hS hD (gF rfl rfl rfl rfl) rfl hn rfl rfl rfl, fun S hS hD hn => .oneNo hS hD (gF rfl rfl rfl rfl) rfl hn rfl rfl rfl, fun S hS hD hn => .oneNo hS hD (gF rfl rfl rfl rfl) rfl hn rfl rfl rfl, fun S hS hD hn => .oneNo hS hD (gF rfl rfl rfl rfl) rfl hn rfl rfl rfl, fun S hS hD hn => .one 0 hS hD hn rfl rfl (pkFV rfl rfl rfl) rfl rfl rfl, fun S hS hD hn => .one 0 hS hD hn rfl rfl (mvV rfl) rfl rfl rfl, fun S hS hD hn => .oneNo hS hD (gF rfl rfl rfl rfl) rfl hn rfl rfl rfl, fun S hS hD hn => .oneNo hS hD (gF rfl rfl rfl rfl) rfl hn rfl rfl rfl, fun S hS hD hn => .oneNo hS hD (gF rfl rfl rfl rfl) rfl hn rfl rfl rfl, fun S hS hD hn => .oneNo hS hD (gF rfl rfl rfl rfl) rfl hn rfl rfl rfl, fun S hS hD hn => .oneNo hS hD (gF rfl rfl rfl rfl) rfl hn rfl rfl rfl, fun S hS hD hn => .oneNo hS hD (gF rfl rfl rfl rfl) rfl hn rfl rfl rfl, fun S hS hD hn => .oneNo hS hD (gF rfl rfl rfl rfl) rfl hn rfl rfl rfl, fun S hS hD hn => .oneNo hS hD (gF rfl rfl rfl rfl) rfl hn rfl rfl rfl, fun S hS hD hn => .oneNo hS hD (gF rfl rfl rfl rfl) rfl hn rfl rfl rfl, fun S hS hD hn => .one 0 hS hD hn rfl rfl (pkFV rfl rfl rfl) rfl rfl rfl, fun S hS hD hn => .one 0 hS hD hn rfl rfl (asV rfl) rfl rfl rfl, trivial⟩) _ (by exact ⟨cB rfl (mAndF (Bool.eq_false_iff.mpr c18)), trivial⟩) (by rfl)
            replace h := h.symm
            subst h
            refine .keepL [] [(4, .val (.bool (t28_1 && (((a1.Parts.length : Int) == 2) && (t28_17 && t28_28)))))] [] (by decide) (by decide) ⟨.free rfl rfl, trivial⟩ trivial ?_
            exact .ret rfl
def r05_is.fN : Nat → TSpace → TWeight → Bool → Prop
  | 0 => fun _ _ _ => False
  | n + 1 => r05_is.step (r05_is.fN n)
theorem r05_is.ND : ∀ (n : Nat) {a0 : TSpace} {a1 : TWeight} {r : Bool} (h : r05_is.fN n a0 a1 r), D Try.prog X (.callH 54 [.agg (TSpace.lit a0), .agg (TWeight.lit a1)] [] (.val (.bool r)) [])
  | 0, _, _, _, h => h.elim
  | n + 1, _, _, _, h => r05_is.stepD (fun _ _ _ h => r05_is.ND n h) h
def r05_is.f (a0 : TSpace) (a1 : TWeight) (r : Bool) : Prop := ∃ n, r05_is.fN n a0 a1 r
theorem r05_is.D {a0 : TSpace} {a1 : TWeight} {r : Bool} (h : r05_is.f a0 a1 r) : D Try.prog X (.callH 54 [.agg (TSpace.lit a0), .agg (TWeight.lit a1)] [] (.val (.bool r)) []) := by obtain ⟨n, h⟩ := h; exact r05_is.ND n h
def r05_Check.f (a0 : TSpace) (a1 : TWeight) (r : Int) : Prop :=
  ∃ t2_1 : Int, (r05_Space.f a0 t2_1) ∧ if t2_1 = 0 then (∃ t4_2 : Bool, (r05_is.f a0 a1 t4_2) ∧ if t4_2 = true then (r = 0) else (r = 51)) else (r = t2_1)
theorem r05_Check.D {a0 : TSpace} {a1 : TWeight} {r : Int} (h : r05_Check.f a0 a1 r) : D Try.prog X (.callH 38 [.agg (TSpace.lit a0), .agg (TWeight.lit a1)] [] (.val (.int .i64 r)) []) := by
  unfold r05_Check.f at h
  refine .enter 15 0 fn38 rfl rfl rfl ?_
  refine .seq ?_
  refine .room 0 ?_
  refine .room 0 ?_
  refine .reg0 rfl (.op 0 rfl (bxP (s := 3) (cs := (TSpace.lit a0)) rfl ⟨rfl, by decide, rfl⟩ rfl) <| .op 1 rfl (bxP (s := 6) (cs := (TWeight.lit a1)) rfl ⟨rfl, by decide, rfl⟩ rfl) <| .op 0 rfl (asV rfl) <| .nil0) ?_
  refine .seq ?_
  obtain ⟨t2_1, g2_1, h⟩ := h
  refine .reg0 rfl (.op 0 rfl (ldG rfl sz25 ag25 rfl) <| .callI rfl (callee_of rfl go36 rfl) (.pure rfl rfl (r05_Space.D g2_1)) <| .op 0 rfl (asV rfl) <| .nil0) ?_
  refine .seq ?_
  refine .seq ?_
  refine .reg0 rfl (.op 0 rfl (mvV rfl) <| .op 0 rfl (neI rfl rfl) <| .nil0) ?_
  by_cases c1 : t2_1 = 0
  · rw [if_pos c1] at h
    refine .condF rfl (bne_eq_false_iff_eq.mpr c1) ?_
    refine .skip ?_
    refine .seq ?_
    refine .seq ?_
    obtain ⟨t4_2, g4_2, h⟩ := h
    refine .reg0 rfl (.op 0 rfl (ldG rfl sz25 ag25 rfl) <| .op 0 rfl (ldG rfl sz48 ag48 rfl) <| .callI rfl (callee_of rfl go54 rfl) (.pure rfl rfl (r05_is.D g4_2)) <| .op 0 rfl (notB rfl) <| .nil0) ?_
    by_cases c2 : t4_2 = true
    · rw [if_pos c2] at h
      refine .condF rfl (bnotF c2) ?_
      refine .skip ?_
      refine .seq ?_
      refine .reg0 rfl (.op 0 rfl (asV rfl) <| .nil0) ?_
      replace h := h.symm
      subst h
      refine .keepL [] [(4, .val (.int .i64 0))] [] (by decide) (by decide) ⟨.free rfl rfl, trivial⟩ trivial ?_
      exact .ret rfl
    · rw [if_neg c2] at h
      refine .condT rfl (bnotT (Bool.eq_false_iff.mpr c2)) ?_
      refine .seq ?_
      refine .reg0 rfl (.op 0 rfl (asV rfl) <| .nil0) ?_
      replace h := h.symm
      subst h
      refine .keepL [] [(4, .val (.int .i64 51))] [] (by decide) (by decide) ⟨.free rfl rfl, trivial⟩ trivial ?_
      exact .ret rfl
  · rw [if_neg c1] at h
    refine .condT rfl (bne_iff_ne.mpr c1) ?_
    refine .seq ?_
    refine .reg0 rfl (.op 0 rfl (mvV rfl) <| .op 0 rfl (asV rfl) <| .nil0) ?_
    replace h := h.symm
    subst h
    refine .keepL [] [(4, .val (.int .i64 t2_1))] [] (by decide) (by decide) ⟨.free rfl rfl, trivial⟩ trivial ?_
    exact .ret rfl
def r11_Check.b1 (a0 : TPds) : Int → Rnd Int Unit Int → Prop := fun x1 z1 => if x1 < (a0.Rules.length : Int) then (((InR x1 a0.Rules.length)) ∧ ∃ t18_6 : Bool, (r11_rule.f a0 (rdl a0.Rules x1) t18_6) ∧ if t18_6 = true then (z1 = .next (IntKind.i64.wrap (x1 + 1))) else (z1 = .ret 110)) else (z1 = .exit ())
def r11_Check.b2 (a0 : TPds) : Int → Rnd Int Unit Int → Prop := fun x2 z2 => if x2 < (a0.Rules.length : Int) then (((InR x2 a0.Rules.length)) ∧ ∃ t33_8 : Int, (r05_Check.f a0.Space ((rdl a0.Rules x2).F) t33_8) ∧ if t33_8 = 0 then (z2 = .next (IntKind.i64.wrap (x2 + 1))) else (z2 = .ret t33_8)) else (z2 = .exit ())
def r11_Check.f (a0 : TPds) (r : Int) : Prop :=
  ∃ t2_2 : Int, (r05_Space.f a0.Space t2_2) ∧ if t2_2 = 0 then (if (a0.Rules.length : Int) > 16384 then (r = 3) else (if ((decide (a0.States < 0)) || ((decide (a0.States > 4096)) || ((decide (a0.Symbols < 0)) || (decide (a0.Symbols > 4096))))) = true then (r = 110) else (∃ o1 : Fin Unit Int, Loop (r11_Check.b1 a0) 0 o1 ∧ o1.on (fun _ => ∃ o2 : Fin Unit Int, Loop (r11_Check.b2 a0) 0 o2 ∧ o2.on (fun _ => r = 0) (fun r_ => r = r_)) (fun r_ => r = r_)))) else (r = t2_2)
theorem r11_Check.D {a0 : TPds} {r : Int} (h : r11_Check.f a0 r) : D Try.prog X (.callH 22 [.agg (TPds.lit a0)] [] (.val (.int .i64 r)) []) := by
  unfold r11_Check.f at h
  refine .enter 69 0 fn22 rfl rfl rfl ?_
  refine .seq ?_
  refine .room 0 ?_
  refine .reg0 rfl (.op 0 rfl (bxP (s := 6) (cs := (TPds.lit a0)) rfl ⟨rfl, by decide, rfl⟩ rfl) <| .op 0 rfl (asV rfl) <| .nil0) ?_
  refine .seq ?_
  obtain ⟨t2_2, g2_2, h⟩ := h
  refine .reg0 rfl (.op 0 rfl (faP fa28_0 rfl) <| .op 0 rfl (ldG rfl sz25 ag25 rfl) <| .callI rfl (callee_of rfl go36 rfl) (.pure rfl rfl (r05_Space.D g2_2)) <| .op 0 rfl (asV rfl) <| .nil0) ?_
  refine .seq ?_
  refine .seq ?_
  refine .reg0 rfl (.op 0 rfl (mvV rfl) <| .op 0 rfl (neI rfl rfl) <| .nil0) ?_
  by_cases c1 : t2_2 = 0
  · rw [if_pos c1] at h
    refine .condF rfl (bne_eq_false_iff_eq.mpr c1) ?_
    refine .skip ?_
    refine .seq ?_
    refine .seq ?_
    refine .reg0 rfl (.op 0 rfl (faP fa28_3 rfl) <| .op 0 rfl (ldP rfl sz26 ag26 rfl) <| .op 0 rfl (lnR (l := a0.Rules) sl26 rfl) <| .op 0 rfl (gtI rfl rfl) <| .nil0) ?_
    by_cases c2 : (a0.Rules.length : Int) > 16384
    · rw [if_pos c2] at h
      refine .condT rfl (decide_eq_true c2) ?_
      refine .seq ?_
      refine .reg0 rfl (.op 0 rfl (asV rfl) <| .nil0) ?_
      replace h := h.symm
      subst h
      refine .keepL [] [(2, .val (.int .i64 3))] [] (by decide) (by decide) ⟨.free rfl rfl, trivial⟩ trivial ?_
      exact .ret rfl
    · rw [if_neg c2] at h
      refine .condF rfl (decide_eq_false c2) ?_
      refine .skip ?_
      refine .seq ?_
      refine .seq ?_
      refine .reg0 (e1 := listEnv [(1, .ptr 0 1 6 0 0), (34, .val (.bool ((decide (a0.States < 0)) || ((decide (a0.States > 4096)) || ((decide (a0.Symbols < 0)) || (decide (a0.Symbols > 4096)))))))]) (H1 := [⟨6, [(TPds.lit a0)], 0, none⟩]) rfl ?_ ?_
      · by_cases c3 : a0.States < 0
        · exact (.op 0 rfl (faP fa28_1 rfl) <| .op 0 rfl (ldP rfl sz3 ag3 rfl) <| .op 0 rfl (ltI rfl rfl) <| .op 0 rfl (mvV rfl) <| .no (gF rfl rfl rfl (decide_eq_true c3)) <| .no (gF rfl rfl rfl (decide_eq_true c3)) <| .no (gF rfl rfl rfl (decide_eq_true c3)) <| .op 0 rfl (pkTV rfl (decide_eq_true c3) rfl) <| .op 0 rfl (mvV rfl) <| .no (gF rfl rfl rfl rfl) <| .no (gF rfl rfl rfl rfl) <| .no (gF rfl rfl rfl rfl) <| .op 0 rfl (pkTV rfl rfl rfl) <| .op 0 rfl (mvV rfl) <| .no (gF rfl rfl rfl rfl) <| .no (gF rfl rfl rfl rfl) <| .no (gF rfl rfl rfl rfl) <| .op 0 rfl (pkTV rfl rfl rfl) <| .nilL _ ⟨.ptr rfl, cB rfl (mOrT (decide_eq_true c3)), trivial⟩)
        · by_cases c4 : a0.States > 4096
          · exact (.op 0 rfl (faP fa28_1 rfl) <| .op 0 rfl (ldP rfl sz3 ag3 rfl) <| .op 0 rfl (ltI rfl rfl) <| .op 0 rfl (mvV rfl) <| .op 0 (gT rfl rfl rfl (decide_eq_false c3)) (faP fa28_1 rfl) <| .op 0 (gT rfl rfl rfl (decide_eq_false c3)) (ldP rfl sz3 ag3 rfl) <| .op 0 (gT rfl rfl rfl (decide_eq_false c3)) (gtI rfl rfl) <| .op 0 rfl (pkFV rfl (decide_eq_false c3) rfl) <| .op 0 rfl (mvV rfl) <| .no (gF rfl rfl rfl (decide_eq_true c4)) <| .no (gF rfl rfl rfl (decide_eq_true c4)) <| .no (gF rfl rfl rfl (decide_eq_true c4)) <| .op 0 rfl (pkTV rfl (decide_eq_true c4) rfl) <| .op 0 rfl (mvV rfl) <| .no (gF rfl rfl rfl rfl) <| .no (gF rfl rfl rfl rfl) <| .no (gF rfl rfl rfl rfl) <| .op 0 rfl (pkTV rfl rfl rfl) <| .nilL _ ⟨.ptr rfl, cB rfl (mOrF (decide_eq_false c3) (mOrT (decide_eq_true c4))), trivial⟩)
          · by_cases c5 : a0.Symbols < 0
            · exact (.op 0 rfl (faP fa28_1 rfl) <| .op 0 rfl (ldP rfl sz3 ag3 rfl) <| .op 0 rfl (ltI rfl rfl) <| .op 0 rfl (mvV rfl) <| .op 0 (gT rfl rfl rfl (decide_eq_false c3)) (faP fa28_1 rfl) <| .op 0 (gT rfl rfl rfl (decide_eq_false c3)) (ldP rfl sz3 ag3 rfl) <| .op 0 (gT rfl rfl rfl (decide_eq_false c3)) (gtI rfl rfl) <| .op 0 rfl (pkFV rfl (decide_eq_false c3) rfl) <| .op 0 rfl (mvV rfl) <| .op 0 (gT rfl rfl rfl (decide_eq_false c4)) (faP fa28_2 rfl) <| .op 0 (gT rfl rfl rfl (decide_eq_false c4)) (ldP rfl sz3 ag3 rfl) <| .op 0 (gT rfl rfl rfl (decide_eq_false c4)) (ltI rfl rfl) <| .op 0 rfl (pkFV rfl (decide_eq_false c4) rfl) <| .op 0 rfl (mvV rfl) <| .no (gF rfl rfl rfl (decide_eq_true c5)) <| .no (gF rfl rfl rfl (decide_eq_true c5)) <| .no (gF rfl rfl rfl (decide_eq_true c5)) <| .op 0 rfl (pkTV rfl (decide_eq_true c5) rfl) <| .nilL _ ⟨.ptr rfl, cB rfl (mOrF (decide_eq_false c3) (mOrF (decide_eq_false c4) (mOrT (decide_eq_true c5)))), trivial⟩)
            · exact (.op 0 rfl (faP fa28_1 rfl) <| .op 0 rfl (ldP rfl sz3 ag3 rfl) <| .op 0 rfl (ltI rfl rfl) <| .op 0 rfl (mvV rfl) <| .op 0 (gT rfl rfl rfl (decide_eq_false c3)) (faP fa28_1 rfl) <| .op 0 (gT rfl rfl rfl (decide_eq_false c3)) (ldP rfl sz3 ag3 rfl) <| .op 0 (gT rfl rfl rfl (decide_eq_false c3)) (gtI rfl rfl) <| .op 0 rfl (pkFV rfl (decide_eq_false c3) rfl) <| .op 0 rfl (mvV rfl) <| .op 0 (gT rfl rfl rfl (decide_eq_false c4)) (faP fa28_2 rfl) <| .op 0 (gT rfl rfl rfl (decide_eq_false c4)) (ldP rfl sz3 ag3 rfl) <| .op 0 (gT rfl rfl rfl (decide_eq_false c4)) (ltI rfl rfl) <| .op 0 rfl (pkFV rfl (decide_eq_false c4) rfl) <| .op 0 rfl (mvV rfl) <| .op 0 (gT rfl rfl rfl (decide_eq_false c5)) (faP fa28_2 rfl) <| .op 0 (gT rfl rfl rfl (decide_eq_false c5)) (ldP rfl sz3 ag3 rfl) <| .op 0 (gT rfl rfl rfl (decide_eq_false c5)) (gtI rfl rfl) <| .op 0 rfl (pkFV rfl (decide_eq_false c5) rfl) <| .nilL _ ⟨.ptr rfl, cB rfl (mOrF (decide_eq_false c3) (mOrF (decide_eq_false c4) (mOrF (decide_eq_false c5) rfl))), trivial⟩)
      by_cases c6 : ((decide (a0.States < 0)) || ((decide (a0.States > 4096)) || ((decide (a0.Symbols < 0)) || (decide (a0.Symbols > 4096))))) = true
      · rw [if_pos c6] at h
        refine .condT rfl c6 ?_
        refine .seq ?_
        refine .reg0 rfl (.op 0 rfl (asV rfl) <| .nil0) ?_
        replace h := h.symm
        subst h
        refine .keepL [] [(2, .val (.int .i64 110))] [] (by decide) (by decide) ⟨.free rfl rfl, trivial⟩ trivial ?_
        exact .ret rfl
      · rw [if_neg c6] at h
        refine .condF rfl (Bool.eq_false_iff.mpr c6) ?_
        refine .skip ?_
        refine .seq ?_
        refine .seq ?_
        refine .reg0 rfl (.op 0 rfl (asV rfl) <| .nil0) ?_
        refine .block ?_
        refine .keepL [0] [(1, .ptr 0 1 6 0 0), (4, .val (.int .i64 0))] [⟨6, [(TPds.lit a0)], 0, none⟩] (by decide) (by decide) ⟨.ptr rfl, .free rfl rfl, trivial⟩ ⟨⟨_, rfl, bcBox (all2_free rfl)⟩, trivial⟩ ?_
        obtain ⟨o1, hL1, h⟩ := h
        refine .loopB (r11_Check.b1 a0) (fun x1 => listEnv [(1, .ptr 0 1 6 0 0), (4, .val (.int .i64 x1))]) (fun x1 => [⟨6, [(TPds.lit a0)], 0, none⟩]) (fun _ => listEnv [(1, .ptr 0 1 6 0 0)]) (fun _ => [⟨6, [(TPds.lit a0)], 0, none⟩]) hL1 (fun r_ => r = r_) ?_ ?_ ?_
        · rintro ⟨⟩ rfl
          try dsimp only [Fin.on] at h
          refine .seq ?_
          refine .seq ?_
          refine .reg0 rfl (.op 0 rfl (asV rfl) <| .nil0) ?_
          refine .block ?_
          refine .keepL [0] [(1, .ptr 0 1 6 0 0), (5, .val (.int .i64 0))] [⟨6, [(TPds.lit a0)], 0, none⟩] (by decide) (by decide) ⟨.ptr rfl, .free rfl rfl, trivial⟩ ⟨⟨_, rfl, bcBox (all2_free rfl)⟩, trivial⟩ ?_
          obtain ⟨o2, hL2, h⟩ := h
          refine .loopB (r11_Check.b2 a0) (fun x2 => listEnv [(1, .ptr 0 1 6 0 0), (5, .val (.int .i64 x2))]) (fun x2 => [⟨6, [(TPds.lit a0)], 0, none⟩]) (fun _ => listEnv []) (fun _ => []) hL2 (fun r_ => r = r_) ?_ ?_ ?_
          · rintro ⟨⟩ rfl
            try dsimp only [Fin.on] at h
            refine .seq ?_
            refine .reg0 rfl (.op 0 rfl (asV rfl) <| .nil0) ?_
            replace h := h.symm
            subst h
            refine .keepL [] [(2, .val (.int .i64 0))] [] (by decide) (by decide) ⟨.free rfl rfl, trivial⟩ trivial ?_
            exact .ret rfl
          · rintro r_ rfl
            exact h
          · rintro x2 z2 h hn2 hx2 hr2
            dsimp only [r11_Check.b2] at h
            refine .seq ?_
            refine .seq ?_
            refine .reg0 rfl (.op 0 rfl (mvV rfl) <| .op 0 rfl (faP fa28_3 rfl) <| .op 0 rfl (ldP rfl sz26 ag26 rfl) <| .op 0 rfl (lnR (l := a0.Rules) sl26 rfl) <| .op 0 rfl (ltI rfl rfl) <| .nil0) ?_
            by_cases c17 : x2 < (a0.Rules.length : Int)
            · rw [if_pos c17] at h
              refine .condT rfl (decide_eq_true c17) ?_
              refine .skip ?_
              refine .seq ?_
              refine .block ?_
              refine .seq ?_
              obtain ⟨g33_5, h⟩ := h
              obtain ⟨t33_8, g33_8, h⟩ := h
              refine .reg1 (e1 := listEnv [(1, .ptr 0 1 6 0 0), (5, .val (.int .i64 x2)), (6, .val (.int .i64 t33_8))]) (H1 := [⟨6, [(TPds.lit a0)], 0, none⟩]) rfl ?_ ?_
              · exact .drawM [(9, 6, .val (.int .i64 t33_8)), (8, 65, .val (.int .i64 t33_8)), (7, 64, .agg (TWeight.lit ((rdl a0.Rules x2).F))), (6, 63, .cptr (TRule.lit (rdl a0.Rules x2)) 4), (5, 62, .cptr (TRule.lit (rdl a0.Rules x2)) 0), (4, 61, .val (.int .i64 x2)), (3, 60, .rows (a0.Rules.map TRule.cells)), (2, 59, .ptr 0 1 6 0 5), (1, 58, .agg (TSpace.lit a0.Space)), (0, 57, .ptr 0 1 6 0 0)] [] [[], [0], [], [2], [], [3, 2, 4], [5, 3, 2, 4], [6, 5, 3, 2, 4], [1, 0, 7, 6, 5, 3, 2, 4], [8, 1, 0, 7, 6, 5, 3, 2, 4]] (by rfl) (by rfl) (by rfl) (by exact ⟨fun S hS hD hn => .one 0 hS hD hn rfl rfl (faP fa28_0 rfl) rfl rfl rfl, fun S hS hD hn => .one 0 hS hD hn rfl rfl (ldG rfl sz25 ag25 rfl) rfl rfl rfl, fun S hS hD hn => .one 0 hS hD hn rfl rfl (faP fa28_3 rfl) rfl rfl rfl, fun S hS hD hn => .one 0 hS hD hn rfl rfl (ldP rfl sz26 ag26 rfl) rfl rfl rfl, fun S hS hD hn => .one 0 hS hD hn rfl rfl (mvV rfl) rfl rfl rfl, fun S hS hD hn => .one 0 hS hD hn rfl rfl (ixR (l := a0.Rules) (lit := TRule.lit) sl26 rfl rfl (fun _ => rfl) g33_5.1 g33_5.2) rfl rfl rfl, fun S hS hD hn => .one 0 hS hD hn rfl rfl (faC fa77_4 rfl) rfl rfl rfl, fun S hS hD hn => .one 0 hS hD hn rfl rfl (ldCG rfl sz48 ag48 rfl) rfl rfl rfl, fun S hS hD hn => .oneI hS hD hn rfl rfl (callee_of rfl go38 rfl) (.pure rfl rfl (r05_Check.D g33_8)) rfl rfl rfl, fun S hS hD hn => .one 0 hS hD hn rfl rfl (asV rfl) rfl rfl rfl, trivial⟩) _ (by exact ⟨.ptr rfl, .free rfl rfl, .free rfl rfl, trivial⟩) (by rfl)
              refine .seq ?_
              refine .reg0 rfl (.op 0 rfl (mvV rfl) <| .op 0 rfl (neI rfl rfl) <| .nil0) ?_
              by_cases c18 : t33_8 = 0
              · rw [if_pos c18] at h
                refine .condF rfl (bne_eq_false_iff_eq.mpr c18) ?_
                refine .skip ?_
                refine .inBlock ?_
                refine .reg0 rfl (.op 0 rfl (mvV rfl) <| .op 0 rfl (addI rfl rfl) <| .op 0 rfl (asV rfl) <| .nil0) ?_
                refine .keepL [0] [(1, .ptr 0 1 6 0 0), (5, .val (.int .i64 (IntKind.i64.wrap (x2 + 1))))] [⟨6, [(TPds.lit a0)], 0, none⟩] (by decide) (by decide) ⟨.ptr rfl, .free rfl rfl, trivial⟩ ⟨⟨_, rfl, bcBox (all2_free rfl)⟩, trivial⟩ ?_
                exact hn2 _ h
              · rw [if_neg c18] at h
                refine .condT rfl (bne_iff_ne.mpr c18) ?_
                refine .seq ?_
                refine .reg0 rfl (.op 0 rfl (mvV rfl) <| .op 0 rfl (asV rfl) <| .nil0) ?_
                have q6 := hr2 _ h
                replace q6 := q6.symm
                subst q6
                refine .keepL [] [(2, .val (.int .i64 t33_8))] [] (by decide) (by decide) ⟨.free rfl rfl, trivial⟩ trivial ?_
                exact .ret rfl
            · rw [if_neg c17] at h
              refine .condF rfl (decide_eq_false c17) ?_
              refine .exit rfl ?_
              refine .keepL [] [] [] (by decide) (by decide) trivial trivial ?_
              exact hx2 _ h
        · rintro r_ rfl
          exact h
        · rintro x1 z1 h hn1 hx1 hr1
          dsimp only [r11_Check.b1] at h
          refine .seq ?_
          refine .seq ?_
          refine .reg0 rfl (.op 0 rfl (mvV rfl) <| .op 0 rfl (faP fa28_3 rfl) <| .op 0 rfl (ldP rfl sz26 ag26 rfl) <| .op 0 rfl (lnR (l := a0.Rules) sl26 rfl) <| .op 0 rfl (ltI rfl rfl) <| .nil0) ?_
          by_cases c11 : x1 < (a0.Rules.length : Int)
          · rw [if_pos c11] at h
            refine .condT rfl (decide_eq_true c11) ?_
            refine .skip ?_
            refine .seq ?_
            refine .block ?_
            refine .seq ?_
            obtain ⟨g18_4, h⟩ := h
            obtain ⟨t18_6, g18_6, h⟩ := h
            refine .reg1 (e1 := listEnv [(1, .ptr 0 1 6 0 0), (4, .val (.int .i64 x1)), (49, .val (.bool (!t18_6)))]) (H1 := [⟨6, [(TPds.lit a0)], 0, none⟩]) rfl ?_ ?_
            · exact .drawM [(7, 49, .val (.bool (!t18_6))), (6, 48, .val (.bool t18_6)), (5, 47, .agg (TRule.lit (rdl a0.Rules x1))), (4, 46, .cptr (TRule.lit (rdl a0.Rules x1)) 0), (3, 45, .val (.int .i64 x1)), (2, 44, .rows (a0.Rules.map TRule.cells)), (1, 43, .ptr 0 1 6 0 5), (0, 42, .agg (TPds.lit a0))] [] [[], [], [1], [], [2, 1, 3], [4, 2, 1, 3], [0, 5, 4, 2, 1, 3], [6, 0, 5, 4, 2, 1, 3]] (by rfl) (by rfl) (by rfl) (by exact ⟨fun S hS hD hn => .one 0 hS hD hn rfl rfl (ldG rfl sz28 ag28 rfl) rfl rfl rfl, fun S hS hD hn => .one 0 hS hD hn rfl rfl (faP fa28_3 rfl) rfl rfl rfl, fun S hS hD hn => .one 0 hS hD hn rfl rfl (ldP rfl sz26 ag26 rfl) rfl rfl rfl, fun S hS hD hn => .one 0 hS hD hn rfl rfl (mvV rfl) rfl rfl rfl, fun S hS hD hn => .one 0 hS hD hn rfl rfl (ixR (l := a0.Rules) (lit := TRule.lit) sl26 rfl rfl (fun _ => rfl) g18_4.1 g18_4.2) rfl rfl rfl, fun S hS hD hn => .one 0 hS hD hn rfl rfl (ldCG rfl sz77 ag77 rfl) rfl rfl rfl, fun S hS hD hn => .oneI hS hD hn rfl rfl (callee_of rfl go37 rfl) (.pure rfl rfl (r11_rule.D g18_6)) rfl rfl rfl, fun S hS hD hn => .one 0 hS hD hn rfl rfl (notB rfl) rfl rfl rfl, trivial⟩) _ (by exact ⟨.ptr rfl, .free rfl rfl, .free rfl rfl, trivial⟩) (by rfl)
            by_cases c12 : t18_6 = true
            · rw [if_pos c12] at h
              refine .condF rfl (bnotF c12) ?_
              refine .skip ?_
              refine .inBlock ?_
              refine .reg0 rfl (.op 0 rfl (mvV rfl) <| .op 0 rfl (addI rfl rfl) <| .op 0 rfl (asV rfl) <| .nil0) ?_
              refine .keepL [0] [(1, .ptr 0 1 6 0 0), (4, .val (.int .i64 (IntKind.i64.wrap (x1 + 1))))] [⟨6, [(TPds.lit a0)], 0, none⟩] (by decide) (by decide) ⟨.ptr rfl, .free rfl rfl, trivial⟩ ⟨⟨_, rfl, bcBox (all2_free rfl)⟩, trivial⟩ ?_
              exact hn1 _ h
            · rw [if_neg c12] at h
              refine .condT rfl (bnotT (Bool.eq_false_iff.mpr c12)) ?_
              refine .seq ?_
              refine .reg0 rfl (.op 0 rfl (asV rfl) <| .nil0) ?_
              have q3 := hr1 _ h
              replace q3 := q3.symm
              subst q3
              refine .keepL [] [(2, .val (.int .i64 110))] [] (by decide) (by decide) ⟨.free rfl rfl, trivial⟩ trivial ?_
              exact .ret rfl
          · rw [if_neg c11] at h
            refine .condF rfl (decide_eq_false c11) ?_
            refine .exit rfl ?_
            refine .keepL [0] [(1, .ptr 0 1 6 0 0)] [⟨6, [(TPds.lit a0)], 0, none⟩] (by decide) (by decide) ⟨.ptr rfl, trivial⟩ ⟨⟨_, rfl, bcBox (all2_free rfl)⟩, trivial⟩ ?_
            exact hx1 _ h
  · rw [if_neg c1] at h
    refine .condT rfl (bne_iff_ne.mpr c1) ?_
    refine .seq ?_
    refine .reg0 rfl (.op 0 rfl (mvV rfl) <| .op 0 rfl (asV rfl) <| .nil0) ?_
    replace h := h.symm
    subst h
    refine .keepL [] [(2, .val (.int .i64 t2_2))] [] (by decide) (by decide) ⟨.free rfl rfl, trivial⟩ trivial ?_
    exact .ret rfl
def r12_Check.b1 (a0 : TPds) (a1 : TConf) : Int → Rnd Int Unit Int → Prop := fun x1 z1 => if x1 < (a1.W.length : Int) then (((InR x1 a1.W.length)) ∧ (¬ ((rdl a1.W x1) < 0) → (InR x1 a1.W.length)) ∧ if ((decide ((rdl a1.W x1) < 0)) || (decide ((rdl a1.W x1) ≥ a0.Symbols))) = true then (z1 = .ret 120) else (z1 = .next (IntKind.i64.wrap (x1 + 1)))) else (z1 = .exit ())
def r12_Check.f (a0 : TPds) (a1 : TConf) (r : Int) : Prop :=
  ∃ t2_1 : Int, (r11_Check.f a0 t2_1) ∧ if t2_1 = 0 then (if ((decide (a1.P < 0)) || ((decide (a1.P ≥ a0.States)) || (decide ((a1.W.length : Int) > 4096)))) = true then (r = 120) else (∃ o1 : Fin Unit Int, Loop (r12_Check.b1 a0 a1) 0 o1 ∧ o1.on (fun _ => r = 0) (fun r_ => r = r_))) else (r = t2_1)
theorem r12_Check.D {a0 : TPds} {a1 : TConf} {r : Int} (h : r12_Check.f a0 a1 r) : D Try.prog X (.callH 9 [.agg (TPds.lit a0), .agg (TConf.lit a1)] [] (.val (.int .i64 r)) []) := by
  unfold r12_Check.f at h
  refine .enter 51 0 fn9 rfl rfl rfl ?_
  refine .seq ?_
  refine .room 0 ?_
  refine .room 0 ?_
  refine .reg0 rfl (.op 0 rfl (bxP (s := 6) (cs := (TPds.lit a0)) rfl ⟨rfl, by decide, rfl⟩ rfl) <| .op 1 rfl (bxP (s := 2) (cs := (TConf.lit a1)) rfl ⟨rfl, by decide, rfl⟩ rfl) <| .op 0 rfl (asV rfl) <| .nil0) ?_
  refine .seq ?_
  obtain ⟨t2_1, g2_1, h⟩ := h
  refine .reg0 rfl (.op 0 rfl (ldG rfl sz28 ag28 rfl) <| .callI rfl (callee_of rfl go22 rfl) (.pure rfl rfl (r11_Check.D g2_1)) <| .op 0 rfl (asV rfl) <| .nil0) ?_
  refine .seq ?_
  refine .seq ?_
  refine .reg0 rfl (.op 0 rfl (mvV rfl) <| .op 0 rfl (neI rfl rfl) <| .nil0) ?_
  by_cases c1 : t2_1 = 0
  · rw [if_pos c1] at h
    refine .condF rfl (bne_eq_false_iff_eq.mpr c1) ?_
    refine .skip ?_
    refine .seq ?_
    refine .seq ?_
    refine .reg0 (e1 := listEnv [(2, .ptr 0 1 6 0 0), (3, .ptr 1 1 2 0 0), (27, .val (.bool ((decide (a1.P < 0)) || ((decide (a1.P ≥ a0.States)) || (decide ((a1.W.length : Int) > 4096))))))]) (H1 := [⟨6, [(TPds.lit a0)], 0, none⟩, ⟨2, [(TConf.lit a1)], 0, none⟩]) rfl ?_ ?_
    · by_cases c2 : a1.P < 0
      · exact (.op 0 rfl (faP fa31_0 rfl) <| .op 0 rfl (ldP rfl sz3 ag3 rfl) <| .op 0 rfl (ltI rfl rfl) <| .op 0 rfl (mvV rfl) <| .no (gF rfl rfl rfl (decide_eq_true c2)) <| .no (gF rfl rfl rfl (decide_eq_true c2)) <| .no (gF rfl rfl rfl (decide_eq_true c2)) <| .no (gF rfl rfl rfl (decide_eq_true c2)) <| .no (gF rfl rfl rfl (decide_eq_true c2)) <| .op 0 rfl (pkTV rfl (decide_eq_true c2) rfl) <| .op 0 rfl (mvV rfl) <| .no (gF rfl rfl rfl rfl) <| .no (gF rfl rfl rfl rfl) <| .no (gF rfl rfl rfl rfl) <| .no (gF rfl rfl rfl rfl) <| .op 0 rfl (pkTV rfl rfl rfl) <| .nilL _ ⟨.ptr rfl, .ptr rfl, cB rfl (mOrT (decide_eq_true c2)), trivial⟩)
      · by_cases c3 : a1.P ≥ a0.States
        · exact (.op 0 rfl (faP fa31_0 rfl) <| .op 0 rfl (ldP rfl sz3 ag3 rfl) <| .op 0 rfl (ltI rfl rfl) <| .op 0 rfl (mvV rfl) <| .op 0 (gT rfl rfl rfl (decide_eq_false c2)) (faP fa31_0 rfl) <| .op 0 (gT rfl rfl rfl (decide_eq_false c2)) (ldP rfl sz3 ag3 rfl) <| .op 0 (gT rfl rfl rfl (decide_eq_false c2)) (faP fa28_1 rfl) <| .op 0 (gT rfl rfl rfl (decide_eq_false c2)) (ldP rfl sz3 ag3 rfl) <| .op 0 (gT rfl rfl rfl (decide_eq_false c2)) (geI rfl rfl) <| .op 0 rfl (pkFV rfl (decide_eq_false c2) rfl) <| .op 0 rfl (mvV rfl) <| .no (gF rfl rfl rfl (decide_eq_true c3)) <| .no (gF rfl rfl rfl (decide_eq_true c3)) <| .no (gF rfl rfl rfl (decide_eq_true c3)) <| .no (gF rfl rfl rfl (decide_eq_true c3)) <| .op 0 rfl (pkTV rfl (decide_eq_true c3) rfl) <| .nilL _ ⟨.ptr rfl, .ptr rfl, cB rfl (mOrF (decide_eq_false c2) (mOrT (decide_eq_true c3))), trivial⟩)
        · exact (.op 0 rfl (faP fa31_0 rfl) <| .op 0 rfl (ldP rfl sz3 ag3 rfl) <| .op 0 rfl (ltI rfl rfl) <| .op 0 rfl (mvV rfl) <| .op 0 (gT rfl rfl rfl (decide_eq_false c2)) (faP fa31_0 rfl) <| .op 0 (gT rfl rfl rfl (decide_eq_false c2)) (ldP rfl sz3 ag3 rfl) <| .op 0 (gT rfl rfl rfl (decide_eq_false c2)) (faP fa28_1 rfl) <| .op 0 (gT rfl rfl rfl (decide_eq_false c2)) (ldP rfl sz3 ag3 rfl) <| .op 0 (gT rfl rfl rfl (decide_eq_false c2)) (geI rfl rfl) <| .op 0 rfl (pkFV rfl (decide_eq_false c2) rfl) <| .op 0 rfl (mvV rfl) <| .op 0 (gT rfl rfl rfl (decide_eq_false c3)) (faP fa31_1 rfl) <| .op 0 (gT rfl rfl rfl (decide_eq_false c3)) (ldP rfl sz29 ag29 rfl) <| .op 0 (gT rfl rfl rfl (decide_eq_false c3)) (lnR (l := a1.W) sl29 rfl) <| .op 0 (gT rfl rfl rfl (decide_eq_false c3)) (gtI rfl rfl) <| .op 0 rfl (pkFV rfl (decide_eq_false c3) rfl) <| .nilL _ ⟨.ptr rfl, .ptr rfl, cB rfl (mOrF (decide_eq_false c2) (mOrF (decide_eq_false c3) rfl)), trivial⟩)
    by_cases c4 : ((decide (a1.P < 0)) || ((decide (a1.P ≥ a0.States)) || (decide ((a1.W.length : Int) > 4096)))) = true
    · rw [if_pos c4] at h
      refine .condT rfl c4 ?_
      refine .seq ?_
      refine .reg0 rfl (.op 0 rfl (asV rfl) <| .nil0) ?_
      replace h := h.symm
      subst h
      refine .keepL [] [(4, .val (.int .i64 120))] [] (by decide) (by decide) ⟨.free rfl rfl, trivial⟩ trivial ?_
      exact .ret rfl
    · rw [if_neg c4] at h
      refine .condF rfl (Bool.eq_false_iff.mpr c4) ?_
      refine .skip ?_
      refine .seq ?_
      refine .seq ?_
      refine .reg0 rfl (.op 0 rfl (asV rfl) <| .nil0) ?_
      refine .block ?_
      refine .keepL [0, 1] [(2, .ptr 0 1 6 0 0), (3, .ptr 1 1 2 0 0), (6, .val (.int .i64 0))] [⟨6, [(TPds.lit a0)], 0, none⟩, ⟨2, [(TConf.lit a1)], 0, none⟩] (by decide) (by decide) ⟨.ptr rfl, .ptr rfl, .free rfl rfl, trivial⟩ ⟨⟨_, rfl, bcBox (all2_free rfl)⟩, ⟨_, rfl, bcBox (all2_free rfl)⟩, trivial⟩ ?_
      obtain ⟨o1, hL1, h⟩ := h
      refine .loopB (r12_Check.b1 a0 a1) (fun x1 => listEnv [(2, .ptr 0 1 6 0 0), (3, .ptr 1 1 2 0 0), (6, .val (.int .i64 x1))]) (fun x1 => [⟨6, [(TPds.lit a0)], 0, none⟩, ⟨2, [(TConf.lit a1)], 0, none⟩]) (fun _ => listEnv []) (fun _ => []) hL1 (fun r_ => r = r_) ?_ ?_ ?_
      · rintro ⟨⟩ rfl
        try dsimp only [Fin.on] at h
        refine .seq ?_
        refine .reg0 rfl (.op 0 rfl (asV rfl) <| .nil0) ?_
        replace h := h.symm
        subst h
        refine .keepL [] [(4, .val (.int .i64 0))] [] (by decide) (by decide) ⟨.free rfl rfl, trivial⟩ trivial ?_
        exact .ret rfl
      · rintro r_ rfl
        exact h
      · rintro x1 z1 h hn1 hx1 hr1
        dsimp only [r12_Check.b1] at h
        refine .seq ?_
        refine .seq ?_
        refine .reg0 rfl (.op 0 rfl (mvV rfl) <| .op 0 rfl (faP fa31_1 rfl) <| .op 0 rfl (ldP rfl sz29 ag29 rfl) <| .op 0 rfl (lnR (l := a1.W) sl29 rfl) <| .op 0 rfl (ltI rfl rfl) <| .nil0) ?_
        by_cases c11 : x1 < (a1.W.length : Int)
        · rw [if_pos c11] at h
          refine .condT rfl (decide_eq_true c11) ?_
          refine .skip ?_
          refine .seq ?_
          refine .block ?_
          refine .seq ?_
          obtain ⟨g16_3, h⟩ := h
          obtain ⟨g16_10, h⟩ := h
          refine .reg1 (e1 := listEnv [(2, .ptr 0 1 6 0 0), (3, .ptr 1 1 2 0 0), (6, .val (.int .i64 x1)), (50, .val (.bool ((decide ((rdl a1.W x1) < 0)) || (decide ((rdl a1.W x1) ≥ a0.Symbols)))))]) (H1 := [⟨6, [(TPds.lit a0)], 0, none⟩, ⟨2, [(TConf.lit a1)], 0, none⟩]) rfl ?_ ?_
          · by_cases c12 : (rdl a1.W x1) < 0
            · exact .drawM [(15, 50, .val (.bool true)), (14, 49, .val undef), (13, 48, .val undef), (12, 47, .val undef), (11, 46, .val undef), (10, 45, .val undef), (9, 44, .val undef), (8, 43, .val undef), (7, 42, .val undef), (6, 41, .val (.bool (decide ((rdl a1.W x1) < 0)))), (5, 40, .val (.bool (decide ((rdl a1.W x1) < 0)))), (4, 39, .val (.int .i64 (rdl a1.W x1))), (3, 38, .cptr ((cInt .i64) (rdl a1.W x1)) 0), (2, 37, .val (.int .i64 x1)), (1, 36, .rows (a1.W.map (cInt .i64))), (0, 35, .ptr 1 1 2 0 1)] [] [[], [0], [], [1, 0, 2], [3, 1, 0, 2], [4, 3, 1, 0, 2], [5, 4, 3, 1, 0, 2], [6, 5, 4, 3, 1, 0, 2], [7, 6, 5, 4, 3, 1, 0, 2], [6, 5, 4, 3, 1, 0, 2], [8, 7, 6, 5, 4, 3, 1, 0, 2, 9], [10, 8, 7, 6, 5, 4, 3, 1, 0, 2, 9], [6, 5, 4, 3, 1, 0, 2], [12, 6, 5, 4, 3, 1, 0, 2], [11, 10, 8, 7, 6, 5, 4, 3, 1, 0, 2, 9, 13, 12], [6, 5, 4, 3, 1, 0, 2, 14, 11, 10, 8, 7, 9, 13, 12]] (by rfl) (by rfl) (by rfl) (by exact ⟨fun S hS hD hn => .one 0 hS hD hn rfl rfl (faP fa31_1 rfl) rfl rfl rfl, fun S hS hD hn => .one 0 hS hD hn rfl rfl (ldP rfl sz29 ag29 rfl) rfl rfl rfl, fun S hS hD hn => .one 0 hS hD hn rfl rfl (mvV rfl) rfl rfl rfl, fun S hS hD hn => .one 0 hS hD hn rfl rfl (ixR (l := a1.W) (lit := (cInt .i64)) sl29 rfl rfl (fun _ => rfl) g16_3.1 g16_3.2) rfl rfl rfl, fun S hS hD hn => .one 0 hS hD hn rfl rfl (ldC rfl sz3 ag3 rfl) rfl rfl rfl, fun S hS hD hn => .one 0 hS hD hn rfl rfl (ltI rfl rfl) rfl rfl rfl, fun S hS hD hn => .one 0 hS hD hn rfl rfl (mvV rfl) rfl rfl rfl, fun S hS hD hn => .oneNo hS hD (gF rfl rfl rfl (decide_eq_true c12)) rfl hn rfl rfl rfl, fun S hS hD hn => .oneNo hS hD (gF rfl rfl rfl (decide_eq_true c12)) rfl hn rfl rfl rfl, fun S hS hD hn => .oneNo hS hD (gF rfl rfl rfl (decide_eq_true c12)) rfl hn rfl rfl rfl, fun S hS hD hn => .oneNo hS hD (gF rfl rfl rfl (decide_eq_true c12)) rfl hn rfl rfl rfl, fun S hS hD hn => .oneNo hS hD (gF rfl rfl rfl (decide_eq_true c12)) rfl hn rfl rfl rfl, fun S hS hD hn => .oneNo hS hD (gF rfl rfl rfl (decide_eq_true c12)) rfl hn rfl rfl rfl, fun S hS hD hn => .oneNo hS hD (gF rfl rfl rfl (decide_eq_true c12)) rfl hn rfl rfl rfl, fun S hS hD hn => .oneNo hS hD (gF rfl rfl rfl (decide_eq_true c12)) rfl hn rfl rfl rfl, fun S hS hD hn => .one 0 hS hD hn rfl rfl (pkTV rfl (decide_eq_true c12) rfl) rfl rfl rfl, trivial⟩) _ (by exact ⟨.ptr rfl, .ptr rfl, .free rfl rfl, cB rfl (mOrT (decide_eq_true c12)), trivial⟩) (by rfl)
            · exact .drawM [(15, 50, .val (.bool (decide ((rdl a1.W x1) ≥ a0.Symbols)))), (14, 49, .val (.bool (decide ((rdl a1.W x1) ≥ a0.Symbols)))), (13, 48, .val (.int .i64 a0.Symbols)), (12, 47, .ptr 0 1 6 0 4), (11, 46, .val (.int .i64 (rdl a1.W x1))), (10, 45, .cptr ((cInt .i64) (rdl a1.W x1)) 0), (9, 44, .val (.int .i64 x1)), (8, 43, .rows (a1.W.map (cInt .i64))), (7, 42, .ptr 1 1 2 0 1), (6, 41, .val (.bool (decide ((rdl a1.W x1) < 0)))), (5, 40, .val (.bool (decide ((rdl a1.W x1) < 0)))), (4, 39, .val (.int .i64 (rdl a1.W x1))), (3, 38, .cptr ((cInt .i64) (rdl a1.W x1)) 0), (2, 37, .val (.int .i64 x1)), (1, 36, .rows (a1.W.map (cInt .i64))), (0, 35, .ptr 1 1 2 0 1)] [] [[], [0], [], [1, 0, 2], [3, 1, 0, 2], [4, 3, 1, 0, 2], [5, 4, 3, 1, 0, 2], [6, 5, 4, 3, 1, 0, 2], [7, 6, 5, 4, 3, 1, 0, 2], [6, 5, 4, 3, 1, 0, 2], [8, 7, 6, 5, 4, 3, 1, 0, 2, 9], [10, 8, 7, 6, 5, 4, 3, 1, 0, 2, 9], [6, 5, 4, 3, 1, 0, 2], [12, 6, 5, 4, 3, 1, 0, 2], [11, 10, 8, 7, 6, 5, 4, 3, 1, 0, 2, 9, 13, 12], [6, 5, 4, 3, 1, 0, 2, 14, 11, 10, 8, 7, 9, 13, 12]] (by rfl) (by rfl) (by rfl) (by exact ⟨fun S hS hD hn => .one 0 hS hD hn rfl rfl (faP fa31_1 rfl) rfl rfl rfl, fun S hS hD hn => .one 0 hS hD hn rfl rfl (ldP rfl sz29 ag29 rfl) rfl rfl rfl, fun S hS hD hn => .one 0 hS hD hn rfl rfl (mvV rfl) rfl rfl rfl, fun S hS hD hn => .one 0 hS hD hn rfl rfl (ixR (l := a1.W) (lit := (cInt .i64)) sl29 rfl rfl (fun _ => rfl) g16_3.1 g16_3.2) rfl rfl rfl, fun S hS hD hn => .one 0 hS hD hn rfl rfl (ldC rfl sz3 ag3 rfl) rfl rfl rfl, fun S hS hD hn => .one 0 hS hD hn rfl rfl (ltI rfl rfl) rfl rfl rfl, fun S hS hD hn => .one 0 hS hD hn rfl rfl (mvV rfl) rfl rfl rfl, fun S hS hD hn => .one 0 hS hD hn (gT rfl rfl rfl (decide_eq_false c12)) rfl (faP fa31_1 rfl) rfl rfl rfl, fun S hS hD hn => .one 0 hS hD hn (gT rfl rfl rfl (decide_eq_false c12)) rfl (ldP rfl sz29 ag29 rfl) rfl rfl rfl, fun S hS hD hn => .one 0 hS hD hn (gT rfl rfl rfl (decide_eq_false c12)) rfl (mvV rfl) rfl rfl rfl, fun S hS hD hn => .one 0 hS hD hn (gT rfl rfl rfl (decide_eq_false c12)) rfl (ixR (l := a1.W) (lit := (cInt .i64)) sl29 rfl rfl (fun _ => rfl) (g16_10 c12).1 (g16_10 c12).2) rfl rfl rfl, fun S hS hD hn => .one 0 hS hD hn (gT rfl rfl rfl (decide_eq_false c12)) rfl (ldC rfl sz3 ag3 rfl) rfl rfl rfl, fun S hS hD hn => .one 0 hS hD hn (gT rfl rfl rfl (decide_eq_false c12)) rfl (faP fa28_2 rfl) rfl rfl rfl, fun S hS hD hn => .one 0 hS hD hn (gT rfl rfl rfl (decide_eq_false c12)) rfl (ldP rfl sz3 ag3 rfl) rfl rfl rfl, fun S hS hD hn => .one 0 hS hD hn (gT rfl rfl rfl (decide_eq_false c12)) rfl (geI rfl rfl) rfl rfl rfl, fun S hS hD hn => .one 0 hS hD hn rfl rfl (pkFV rfl (decide_eq_false c12) rfl) rfl rfl rfl, trivial⟩) _ (by exact ⟨.ptr rfl, .ptr rfl, .free rfl rfl, cB rfl (mOrF (decide_eq_false c12) rfl), trivial⟩) (by rfl)
          by_cases c13 : ((decide ((rdl a1.W x1) < 0)) || (decide ((rdl a1.W x1) ≥ a0.Symbols))) = true
          · rw [if_pos c13] at h
            refine .condT rfl c13 ?_
            refine .seq ?_
            refine .reg0 rfl (.op 0 rfl (asV rfl) <| .nil0) ?_
            have q3 := hr1 _ h
            replace q3 := q3.symm
            subst q3
            refine .keepL [] [(4, .val (.int .i64 120))] [] (by decide) (by decide) ⟨.free rfl rfl, trivial⟩ trivial ?_
            exact .ret rfl
          · rw [if_neg c13] at h
            refine .condF rfl (Bool.eq_false_iff.mpr c13) ?_
            refine .skip ?_
            refine .inBlock ?_
            refine .reg0 rfl (.op 0 rfl (mvV rfl) <| .op 0 rfl (addI rfl rfl) <| .op 0 rfl (asV rfl) <| .nil0) ?_
            refine .keepL [0, 1] [(2, .ptr 0 1 6 0 0), (3, .ptr 1 1 2 0 0), (6, .val (.int .i64 (IntKind.i64.wrap (x1 + 1))))] [⟨6, [(TPds.lit a0)], 0, none⟩, ⟨2, [(TConf.lit a1)], 0, none⟩] (by decide) (by decide) ⟨.ptr rfl, .ptr rfl, .free rfl rfl, trivial⟩ ⟨⟨_, rfl, bcBox (all2_free rfl)⟩, ⟨_, rfl, bcBox (all2_free rfl)⟩, trivial⟩ ?_
            exact hn1 _ h
        · rw [if_neg c11] at h
          refine .condF rfl (decide_eq_false c11) ?_
          refine .exit rfl ?_
          refine .keepL [] [] [] (by decide) (by decide) trivial trivial ?_
          exact hx1 _ h
  · rw [if_neg c1] at h
    refine .condT rfl (bne_iff_ne.mpr c1) ?_
    refine .seq ?_
    refine .reg0 rfl (.op 0 rfl (mvV rfl) <| .op 0 rfl (asV rfl) <| .nil0) ?_
    replace h := h.symm
    subst h
    refine .keepL [] [(4, .val (.int .i64 t2_1))] [] (by decide) (by decide) ⟨.free rfl rfl, trivial⟩ trivial ?_
    exact .ret rfl
def r03_One.b1 (a0 : Int) : ((List Int) × Int) → Rnd (((List Int) × Int)) ((List Int)) (TFacts × Int) → Prop := fun (x2, x3) z1 => if x3 < a0 then (∃ t12_3 : Int, (r01_Worth.f x3 t12_3) ∧ ((Fits (x2.length + 1) 8)) ∧ z1 = .next ((x2 ++ [t12_3]), (IntKind.i64.wrap (x3 + 1)))) else (z1 = .exit x2)
def r03_One.f (a0 : Int) (r : TFacts × Int) : Prop :=
  ∃ t2_1 : Bool, (r03_dim.f a0 t2_1) ∧ if t2_1 = true then (∃ o1 : Fin ((List Int)) (TFacts × Int), Loop (r03_One.b1 a0) ([], 0) o1 ∧ o1.on (fun x4 => r = ((TFacts.mk 0 x4), 0)) (fun r_ => r = r_)) else (r = ((TFacts.mk 0 []), 31))
theorem r03_One.D {a0 : Int} {r : TFacts × Int} (h : r03_One.f a0 r) : D Try.prog X (.callH 58 [.val (.int .i64 a0)] [] (.tuple [.agg (TFacts.lit r.1), .val (.int .i64 r.2)]) []) := by
  unfold r03_One.f at h
  refine .enter 24 0 fn58 rfl rfl rfl ?_
  refine .seq ?_
  refine .room 0 ?_
  refine .reg0 rfl (.op 0 rfl (alP (s := 2) ze44 ⟨rfl, by decide, rfl⟩ rfl) <| .op 0 rfl (asV rfl) <| .nil0) ?_
  refine .seq ?_
  refine .seq ?_
  obtain ⟨t2_1, g2_1, h⟩ := h
  refine .reg0 rfl (.op 0 rfl (mvV rfl) <| .callI rfl (callee_of rfl go77 rfl) (.pure rfl rfl (r03_dim.D g2_1)) <| .op 0 rfl (notB rfl) <| .nil0) ?_
  by_cases c1 : t2_1 = true
  · rw [if_pos c1] at h
    refine .condF rfl (bnotF c1) ?_
    refine .skip ?_
    refine .seq ?_
    refine .room 0 ?_
    refine .reg0 rfl (.op 0 rfl (bldS (cs := [.val (.int .u64 0), .val (.slice none 0 0)]) ze44 pl44 rfl rfl) <| .op 1 rfl (alP (s := 2) ze44 ⟨rfl, by decide, rfl⟩ rfl) <| .op 0 rfl (stB (cs0 := [.val (.int .u64 0), .val (.slice none 0 0)]) (cs := [.val (.int .u64 0), .val (.slice none 0 0)]) (cs1 := [.val (.int .u64 0), .val (.slice none 0 0)]) rfl rfl sz44 rfl ⟨Nat.le_of_ble_eq_true rfl, rfl⟩ rfl) <| .nil0) ?_
    refine .seq ?_
    refine .seq ?_
    refine .reg0 rfl (.op 0 rfl (asV rfl) <| .nil0) ?_
    refine .block ?_
    refine .room 1 ?_
    refine .keepL [0, 1, 2] [(0, .val (.int .i64 a0)), (2, .ptr 0 1 2 0 0), (4, .ptr 1 1 2 0 0), (5, .val (.int .i64 0))] [⟨2, [[.val (.int .u64 0), .val (.slice none 0 0)]], 0, none⟩, ⟨2, [[.val (.int .u64 0), .own 2 0]], 0, none⟩, ⟨1, [].map (cInt .u64), 0, none⟩] (by decide) (by decide) ⟨.free rfl rfl, .ptr rfl, .ptr rfl, .free rfl rfl, trivial⟩ ⟨⟨_, rfl, bcBox (all2_free rfl)⟩, ⟨_, rfl, bcBox (.cons (.free rfl rfl) <| .cons (.nilOwn) <| .nil)⟩, ⟨_, rfl, (bcRow (l := []) sl42 (Nat.le_refl _) rfl)⟩, trivial⟩ ?_
    obtain ⟨o1, hL1, h⟩ := h
    refine .loopB (r03_One.b1 a0) (fun (x2, x3) => listEnv [(0, .val (.int .i64 a0)), (2, .ptr 0 1 2 0 0), (4, .ptr 1 1 2 0 0), (5, .val (.int .i64 x3))]) (fun (x2, x3) => [⟨2, [[.val (.int .u64 0), .val (.slice none 0 0)]], 0, none⟩, ⟨2, [[.val (.int .u64 0), .own 2 x2.length]], 0, none⟩, ⟨1, x2.map (cInt .u64), 0, none⟩]) (fun x4 => listEnv [(2, .ptr 0 1 2 0 0), (4, .ptr 1 1 2 0 0)]) (fun x4 => [⟨2, [[.val (.int .u64 0), .val (.slice none 0 0)]], 0, none⟩, ⟨2, [[.val (.int .u64 0), .own 2 x4.length]], 0, none⟩, ⟨1, x4.map (cInt .u64), 0, none⟩]) hL1 (fun r_ => r = r_) ?_ ?_ ?_
    · rintro x4 rfl
      try dsimp only [Fin.on] at h
      refine .seq ?_
      refine .reg0 rfl (.op 0 rfl (ldG rfl sz44 ag44 rfl) <| .op 0 rfl (stB (cs0 := [.val (.int .u64 0), .val (.slice none 0 0)]) (cs := [.val (.int .u64 0), .own 2 x4.length]) (cs1 := [.val (.int .u64 0), .own 2 x4.length]) rfl rfl sz44 rfl ⟨Nat.le_of_ble_eq_true rfl, rfl⟩ rfl) <| .op 0 rfl (asV rfl) <| .nil0) ?_
      replace h := h.symm
      subst h
      refine .keepL [] [(2, .cptr [.val (.int .u64 0), .rows (x4.map (cInt .u64))] 0), (3, .val (.int .i64 0))] [] (by decide) (by decide) ⟨cFixP rfl rfl (.cons (.free rfl rfl) <| .cons (cFixO (l := x4) sl42 rfl rfl rfl rfl) <| .nil), .free rfl rfl, trivial⟩ trivial ?_
      exact .ret rfl
    · rintro r_ rfl
      exact h
    · rintro ⟨x2, x3⟩ z1 h hn1 hx1 hr1
      dsimp only [r03_One.b1] at h
      refine .seq ?_
      refine .seq ?_
      refine .reg0 rfl (.op 0 rfl (mvV rfl) <| .op 0 rfl (mvV rfl) <| .op 0 rfl (ltI rfl rfl) <| .nil0) ?_
      by_cases c4 : x3 < a0
      · rw [if_pos c4] at h
        refine .condT rfl (decide_eq_true c4) ?_
        refine .skip ?_
        refine .seq ?_
        refine .block ?_
        obtain ⟨t12_3, g12_3, h⟩ := h
        obtain ⟨g12_5, h⟩ := h
        refine .room 0 ?_
        refine .room 0 ?_
        refine .reg1 (e1 := listEnv [(0, .val (.int .i64 a0)), (2, .ptr 0 1 2 0 0), (4, .ptr 1 1 2 0 0), (5, .val (.int .i64 x3))]) (H1 := [⟨2, [[.val (.int .u64 0), .val (.slice none 0 0)]], 0, none⟩, ⟨2, [[.val (.int .u64 0), .own 2 ((x2 ++ [t12_3]).length)]], 0, none⟩, ⟨1, (x2 ++ [t12_3]).map (cInt .u64), 0, none⟩, ⟨1, [t12_3].map (cInt .u64), 0, none⟩, Blk.hole]) rfl ?_ ?_
        · exact .drawM [(6, 22, .ptr 1 1 2 0 1), (5, 21, .own 2 ((x2 ++ [t12_3]).length)), (4, 20, .own 3 ([t12_3].length)), (3, 19, .val (.int .u64 t12_3)), (2, 18, .val (.int .i64 x3)), (1, 17, .own 2 x2.length), (0, 16, .ptr 1 1 2 0 1)] [(7, 1, ⟨2, [[.val (.int .u64 0), .own 2 ((x2 ++ [t12_3]).length)]], 0, none⟩), (5, 2, ⟨1, (x2 ++ [t12_3]).map (cInt .u64), 0, none⟩), (4, 3, ⟨1, [t12_3].map (cInt .u64), 0, none⟩)] [[], [0], [], [2], [3, 2], [1, 0, 4, 3, 2], [0, 1, 2, 3, 4, 5], [6, 0, 1, 2, 3, 4, 5]] (by rfl) (by rfl) (by rfl) (by exact ⟨fun S hS hD hn => .one 0 hS hD hn rfl rfl (faP fa44_1 rfl) rfl rfl rfl, fun S hS hD hn => .one 0 hS hD hn rfl rfl (ldP rfl sz42 ag42 rfl) rfl rfl rfl, fun S hS hD hn => .one 0 hS hD hn rfl rfl (mvV rfl) rfl rfl rfl, fun S hS hD hn => .oneI hS hD hn rfl rfl (callee_of rfl go59 rfl) (.pure rfl rfl (r01_Worth.D g12_3)) rfl rfl rfl, fun S hS hD hn => .one 3 hS hD hn rfl rfl (bldL (s := 1) (cs := [.val (.int .u64 t12_3)]) un42 sz41 ze41 ⟨by decide, rfl, by decide⟩ rfl rfl rfl rfl) rfl rfl rfl, fun S hS hD hn => .one 0 hS hD hn rfl rfl (ap1 (l := x2) t12_3 sl42 rfl rfl rfl (Nat.zero_le _) (elems_own (l := [t12_3]) rfl rfl) g12_5) rfl rfl rfl, fun S hS hD hn => .one 0 hS hD hn rfl rfl (faP fa44_1 rfl) rfl rfl rfl, fun S hS hD hn => .one0 0 rfl rfl (stB (cs0 := [.val (.int .u64 0), .own 2 x2.length]) (cs := [.own 2 ((x2 ++ [t12_3]).length)]) (cs1 := [.val (.int .u64 0), .own 2 ((x2 ++ [t12_3]).length)]) rfl rfl sz42 rfl ⟨Nat.le_of_ble_eq_true rfl, rfl⟩ rfl) (drawE_other _ _ _ _ rfl) rfl, trivial⟩) _ (by exact ⟨.free rfl rfl, .ptr rfl, .ptr rfl, .free rfl rfl, trivial⟩) (by rfl)
        refine .inBlock ?_
        refine .reg0 rfl (.op 0 rfl (mvV rfl) <| .op 0 rfl (addI rfl rfl) <| .op 0 rfl (asV rfl) <| .nil0) ?_
        refine .keepL [0, 1, 2] [(0, .val (.int .i64 a0)), (2, .ptr 0 1 2 0 0), (4, .ptr 1 1 2 0 0), (5, .val (.int .i64 (IntKind.i64.wrap (x3 + 1))))] [⟨2, [[.val (.int .u64 0), .val (.slice none 0 0)]], 0, none⟩, ⟨2, [[.val (.int .u64 0), .own 2 ((x2 ++ [t12_3]).length)]], 0, none⟩, ⟨1, (x2 ++ [t12_3]).map (cInt .u64), 0, none⟩] (by decide) (by decide) ⟨.free rfl rfl, .ptr rfl, .ptr rfl, .free rfl rfl, trivial⟩ ⟨⟨_, rfl, bcBox (all2_free rfl)⟩, ⟨_, rfl, bcBox (.cons (.free rfl rfl) <| .cons (.own rfl) <| .nil)⟩, ⟨_, rfl, bcRow (l := (x2 ++ [t12_3])) sl42 (Nat.le_refl _) rfl⟩, trivial⟩ ?_
        exact hn1 _ h
      · rw [if_neg c4] at h
        refine .condF rfl (decide_eq_false c4) ?_
        refine .exit rfl ?_
        refine .keepL [0, 1, 2] [(2, .ptr 0 1 2 0 0), (4, .ptr 1 1 2 0 0)] [⟨2, [[.val (.int .u64 0), .val (.slice none 0 0)]], 0, none⟩, ⟨2, [[.val (.int .u64 0), .own 2 x2.length]], 0, none⟩, ⟨1, x2.map (cInt .u64), 0, none⟩] (by decide) (by decide) ⟨.ptr rfl, .ptr rfl, trivial⟩ ⟨⟨_, rfl, bcBox (all2_free rfl)⟩, ⟨_, rfl, bcBox (.cons (.free rfl rfl) <| .cons (.own rfl) <| .nil)⟩, ⟨_, rfl, bcRow (l := x2) sl42 (Nat.le_refl _) rfl⟩, trivial⟩ ?_
        exact hx1 _ h
  · rw [if_neg c1] at h
    refine .condT rfl (bnotT (Bool.eq_false_iff.mpr c1)) ?_
    refine .seq ?_
    refine .reg0 rfl (.op 0 rfl (bldS (cs := [.val (.int .u64 0), .val (.slice none 0 0)]) ze44 pl44 rfl rfl) <| .op 0 rfl (stB (cs0 := [.val (.int .u64 0), .val (.slice none 0 0)]) (cs := [.val (.int .u64 0), .val (.slice none 0 0)]) (cs1 := [.val (.int .u64 0), .val (.slice none 0 0)]) rfl rfl sz44 rfl ⟨Nat.le_of_ble_eq_true rfl, rfl⟩ rfl) <| .op 0 rfl (asV rfl) <| .nil0) ?_
    replace h := h.symm
    subst h
    refine .keepL [] [(2, .cptr [.val (.int .u64 0), .rows (([] : List Int).map (cInt .u64))] 0), (3, .val (.int .i64 31))] [] (by decide) (by decide) ⟨cFixP rfl rfl (.cons (.free rfl rfl) <| .cons (.nil) <| .nil), .free rfl rfl, trivial⟩ trivial ?_
    exact .ret rfl
def r05_one.b1 (a0 : TSpace) : ((List TCell) × Int) → Rnd (((List TCell) × Int)) ((List TCell)) TWeight → Prop := fun (x2, x3) z1 => if x3 < a0.Dim then (∃ t16_3 : Int, (r01_Worth.f x3 t16_3) ∧ ((Fits (x2.length + 1) 24)) ∧ z1 = .next ((x2 ++ [(TCell.mk t16_3 0 0)]), (IntKind.i64.wrap (x3 + 1)))) else (z1 = .exit x2)
def r05_one.step (self43 : TSpace → TWeight → Prop) (a0 : TSpace) (r : TWeight) : Prop :=
  if a0.Tag = 3 then (∃ t5_2 : TFacts × Int, (r03_One.f a0.Dim t5_2) ∧ r = (TWeight.mk false 0 t5_2.1 [] [])) else (if a0.Tag = 4 then (∃ o1 : Fin ((List TCell)) TWeight, Loop (r05_one.b1 a0) ([], 0) o1 ∧ o1.on (fun x4 => r = (TWeight.mk false 0 (TFacts.mk 0 []) x4 [])) (fun r_ => r = r_)) else (if a0.Tag = 5 then (((InR 0 a0.Parts.length)) ∧ ∃ t20_4 : TWeight, (self43 (rdl a0.Parts 0) t20_4) ∧ ((InR 1 a0.Parts.length)) ∧ ∃ t20_9 : TWeight, (self43 (rdl a0.Parts 1) t20_9) ∧ r = (TWeight.mk false 0 (TFacts.mk 0 []) [] [t20_4, t20_9])) else (r = (TWeight.mk false 0 (TFacts.mk 0 []) [] []))))
theorem r05_one.stepD {self43 : TSpace → TWeight → Prop} {a0 : TSpace} (hs43 : ∀ z0_ r_, self43 z0_ r_ → D Try.prog X (.callH 43 [.agg (TSpace.lit z0_)] [] (.agg (TWeight.lit r_)) [])) {r : TWeight} (h : r05_one.step self43 a0 r) : D Try.prog X (.callH 43 [.agg (TSpace.lit a0)] [] (.agg (TWeight.lit r)) []) := by
  unfold r05_one.step at h
  refine .enter 48 0 fn43 rfl rfl rfl ?_
  refine .seq ?_
  refine .room 0 ?_
  refine .room 0 ?_
  refine .reg0 rfl (.op 0 rfl (bxP (s := 3) (cs := (TSpace.lit a0)) rfl ⟨rfl, by decide, rfl⟩ rfl) <| .op 1 rfl (alP (s := 6) ze48 ⟨rfl, by decide, rfl⟩ rfl) <| .nil0) ?_
  refine .seq ?_
  refine .room 0 ?_
  refine .reg0 rfl (.op 0 rfl (bldS (cs := [.val (.bool false), .val (.int .i64 0), .val (.int .u64 0), .val (.slice none 0 0), .val (.slice none 0 0), .val (.slice none 0 0)]) ze48 pl48 rfl rfl) <| .op 2 rfl (alP (s := 6) ze48 ⟨rfl, by decide, rfl⟩ rfl) <| .op 0 rfl (stB (cs0 := [.val (.bool false), .val (.int .i64 0), .val (.int .u64 0), .val (.slice none 0 0), .val (.slice none 0 0), .val (.slice none 0 0)]) (cs := [.val (.bool false), .val (.int .i64 0), .val (.int .u64 0), .val (.slice none 0 0), .val (.slice none 0 0), .val (.slice none 0 0)]) (cs1 := [.val (.bool false), .val (.int .i64 0), .val (.int .u64 0), .val (.slice none 0 0), .val (.slice none 0 0), .val (.slice none 0 0)]) rfl rfl sz48 rfl ⟨Nat.le_of_ble_eq_true rfl, rfl⟩ rfl) <| .nil0) ?_
  refine .seq ?_
  refine .seq ?_
  refine .reg0 rfl (.op 0 rfl (faP fa25_0 rfl) <| .op 0 rfl (ldP rfl sz22 ag22 rfl) <| .nil0) ?_
  refine .block ?_
  refine .seq ?_
  refine .reg0 rfl (.op 0 rfl (eqI rfl rfl) <| .op 0 rfl (asV rfl) <| .nil0) ?_
  by_cases c1 : a0.Tag = 3
  · rw [if_pos c1] at h
    refine .condT rfl (beq_iff_eq.mpr c1) ?_
    obtain ⟨t5_2, g5_2, h⟩ := h
    refine .reg0 rfl (.op 0 rfl (faP fa25_1 rfl) <| .op 0 rfl (ldP rfl sz3 ag3 rfl) <| .callI rfl (callee_of rfl go58 rfl) (.pure rfl rfl (r03_One.D g5_2)) <| .op 0 rfl (mvT rfl) <| .op 0 rfl (exT rfl rfl) <| .op 0 rfl (exT rfl rfl) <| .op 0 rfl (faP fa48_2 rfl) <| .op 0 rfl (stB (cs0 := [.val (.bool false), .val (.int .i64 0), .val (.int .u64 0), .val (.slice none 0 0), .val (.slice none 0 0), .val (.slice none 0 0)]) (cs := (TFacts.lit t5_2.1)) (cs1 := [.val (.bool false), .val (.int .i64 0), .val (.int .u64 t5_2.1.Gen), .rows (t5_2.1.Rows.map (cInt .u64)), .val (.slice none 0 0), .val (.slice none 0 0)]) rfl rfl sz44 rfl ⟨Nat.le_of_ble_eq_true rfl, rfl⟩ rfl) <| .nil0) ?_
    refine .inBlock ?_
    refine .seq ?_
    refine .reg0 rfl (.op 0 rfl (ldG rfl sz48 ag48 rfl) <| .op 0 rfl (stB (cs0 := [.val (.bool false), .val (.int .i64 0), .val (.int .u64 0), .val (.slice none 0 0), .val (.slice none 0 0), .val (.slice none 0 0)]) (cs := [.val (.bool false), .val (.int .i64 0), .val (.int .u64 t5_2.1.Gen), .rows (t5_2.1.Rows.map (cInt .u64)), .val (.slice none 0 0), .val (.slice none 0 0)]) (cs1 := [.val (.bool false), .val (.int .i64 0), .val (.int .u64 t5_2.1.Gen), .rows (t5_2.1.Rows.map (cInt .u64)), .val (.slice none 0 0), .val (.slice none 0 0)]) rfl rfl sz48 rfl ⟨Nat.le_of_ble_eq_true rfl, rfl⟩ rfl) <| .nil0) ?_
    replace h := h.symm
    subst h
    refine .keepL [] [(2, .cptr [.val (.bool false), .val (.int .i64 0), .val (.int .u64 t5_2.1.Gen), .rows (t5_2.1.Rows.map (cInt .u64)), .rows (([] : List TCell).map TCell.cells), .rows (([] : List TWeight).map TWeight.cells)] 0)] [] (by decide) (by decide) ⟨cFixP rfl rfl (.cons (.free rfl rfl) <| .cons (.free rfl rfl) <| .cons (.free rfl rfl) <| .cons (.free rfl rfl) <| .cons (.nil) <| .cons (.nil) <| .nil), trivial⟩ trivial ?_
    exact .ret rfl
  · rw [if_neg c1] at h
    refine .condF rfl (beq_eq_false_iff_ne.mpr c1) ?_
    refine .seq ?_
    refine .reg0 rfl (.op 0 rfl (eqI rfl rfl) <| .op 0 rfl (asV rfl) <| .nil0) ?_
    by_cases c2 : a0.Tag = 4
    · rw [if_pos c2] at h
      refine .condT rfl (beq_iff_eq.mpr c2) ?_
      refine .seq ?_
      refine .reg0 rfl (.op 0 rfl (asV rfl) <| .nil0) ?_
      refine .block ?_
      refine .room 3 ?_
      refine .keepL [0, 1, 2, 3] [(1, .ptr 0 1 3 0 0), (2, .ptr 1 1 6 0 0), (3, .ptr 2 1 6 0 0), (4, .val (.int .i64 0))] [⟨3, [(TSpace.lit a0)], 0, none⟩, ⟨6, [[.val (.bool false), .val (.int .i64 0), .val (.int .u64 0), .val (.slice none 0 0), .val (.slice none 0 0), .val (.slice none 0 0)]], 0, none⟩, ⟨6, [[.val (.bool false), .val (.int .i64 0), .val (.int .u64 0), .val (.slice none 0 0), .own 3 0, .val (.slice none 0 0)]], 0, none⟩, ⟨3, [].map TCell.cells, 0, none⟩] (by decide) (by decide) ⟨.ptr rfl, .ptr rfl, .ptr rfl, .free rfl rfl, trivial⟩ ⟨⟨_, rfl, bcBox (all2_free rfl)⟩, ⟨_, rfl, bcBox (all2_free rfl)⟩, ⟨_, rfl, bcBox (.cons (.free rfl rfl) <| .cons (.free rfl rfl) <| .cons (.free rfl rfl) <| .cons (.free rfl rfl) <| .cons (.nilOwn) <| .cons (.free rfl rfl) <| .nil)⟩, ⟨_, rfl, (bcRow (l := []) sl45 (Nat.le_refl _) rfl)⟩, trivial⟩ ?_
      obtain ⟨o1, hL1, h⟩ := h
      refine .loopB (r05_one.b1 a0) (fun (x2, x3) => listEnv [(1, .ptr 0 1 3 0 0), (2, .ptr 1 1 6 0 0), (3, .ptr 2 1 6 0 0), (4, .val (.int .i64 x3))]) (fun (x2, x3) => [⟨3, [(TSpace.lit a0)], 0, none⟩, ⟨6, [[.val (.bool false), .val (.int .i64 0), .val (.int .u64 0), .val (.slice none 0 0), .val (.slice none 0 0), .val (.slice none 0 0)]], 0, none⟩, ⟨6, [[.val (.bool false), .val (.int .i64 0), .val (.int .u64 0), .val (.slice none 0 0), .own 3 x2.length, .val (.slice none 0 0)]], 0, none⟩, ⟨3, x2.map TCell.cells, 0, none⟩]) (fun x4 => listEnv [(2, .ptr 0 1 6 0 0), (3, .ptr 1 1 6 0 0)]) (fun x4 => [⟨6, [[.val (.bool false), .val (.int .i64 0), .val (.int .u64 0), .val (.slice none 0 0), .val (.slice none 0 0), .val (.slice none 0 0)]], 0, none⟩, ⟨6, [[.val (.bool false), .val (.int .i64 0), .val (.int .u64 0), .val (.slice none 0 0), .own 2 x4.length, .val (.slice none 0 0)]], 0, none⟩, ⟨3, x4.map TCell.cells, 0, none⟩]) hL1 (fun r_ => r = r_) ?_ ?_ ?_
      · rintro x4 rfl
        try dsimp only [Fin.on] at h
        refine .inBlock ?_
        refine .seq ?_
        refine .reg0 rfl (.op 0 rfl (ldG rfl sz48 ag48 rfl) <| .op 0 rfl (stB (cs0 := [.val (.bool false), .val (.int .i64 0), .val (.int .u64 0), .val (.slice none 0 0), .val (.slice none 0 0), .val (.slice none 0 0)]) (cs := [.val (.bool false), .val (.int .i64 0), .val (.int .u64 0), .val (.slice none 0 0), .own 2 x4.length, .val (.slice none 0 0)]) (cs1 := [.val (.bool false), .val (.int .i64 0), .val (.int .u64 0), .val (.slice none 0 0), .own 2 x4.length, .val (.slice none 0 0)]) rfl rfl sz48 rfl ⟨Nat.le_of_ble_eq_true rfl, rfl⟩ rfl) <| .nil0) ?_
        replace h := h.symm
        subst h
        refine .keepL [] [(2, .cptr [.val (.bool false), .val (.int .i64 0), .val (.int .u64 0), .rows (([] : List Int).map (cInt .u64)), .rows (x4.map TCell.cells), .rows (([] : List TWeight).map TWeight.cells)] 0)] [] (by decide) (by decide) ⟨cFixP rfl rfl (.cons (.free rfl rfl) <| .cons (.free rfl rfl) <| .cons (.free rfl rfl) <| .cons (.nil) <| .cons (cFixO (l := x4) sl45 rfl rfl rfl rfl) <| .cons (.nil) <| .nil), trivial⟩ trivial ?_
        exact .ret rfl
      · rintro r_ rfl
        exact h
      · rintro ⟨x2, x3⟩ z1 h hn1 hx1 hr1
        dsimp only [r05_one.b1] at h
        refine .seq ?_
        refine .seq ?_
        refine .reg0 rfl (.op 0 rfl (mvV rfl) <| .op 0 rfl (faP fa25_1 rfl) <| .op 0 rfl (ldP rfl sz3 ag3 rfl) <| .op 0 rfl (ltI rfl rfl) <| .nil0) ?_
        by_cases c5 : x3 < a0.Dim
        · rw [if_pos c5] at h
          refine .condT rfl (decide_eq_true c5) ?_
          refine .skip ?_
          refine .seq ?_
          refine .block ?_
          obtain ⟨t16_3, g16_3, h⟩ := h
          obtain ⟨g16_6, h⟩ := h
          refine .room 0 ?_
          refine .room 0 ?_
          refine .reg1 (e1 := listEnv [(1, .ptr 0 1 3 0 0), (2, .ptr 1 1 6 0 0), (3, .ptr 2 1 6 0 0), (4, .val (.int .i64 x3))]) (H1 := [⟨3, [(TSpace.lit a0)], 0, none⟩, ⟨6, [[.val (.bool false), .val (.int .i64 0), .val (.int .u64 0), .val (.slice none 0 0), .val (.slice none 0 0), .val (.slice none 0 0)]], 0, none⟩, ⟨6, [[.val (.bool false), .val (.int .i64 0), .val (.int .u64 0), .val (.slice none 0 0), .own 3 ((x2 ++ [(TCell.mk t16_3 0 0)]).length), .val (.slice none 0 0)]], 0, none⟩, ⟨3, (x2 ++ [(TCell.mk t16_3 0 0)]).map TCell.cells, 0, none⟩, ⟨3, [(TCell.mk t16_3 0 0)].map TCell.cells, 0, none⟩, Blk.hole]) rfl ?_ ?_
          · exact .drawM [(7, 32, .ptr 2 1 6 0 4), (6, 31, .own 3 ((x2 ++ [(TCell.mk t16_3 0 0)]).length)), (5, 30, .own 4 ([(TCell.mk t16_3 0 0)].length)), (4, 29, .agg [.val (.int .u64 t16_3), .val (.int .i64 0), .val (.int .i64 0)]), (3, 28, .val (.int .u64 t16_3)), (2, 27, .val (.int .i64 x3)), (1, 26, .own 3 x2.length), (0, 25, .ptr 2 1 6 0 4)] [(8, 2, ⟨6, [[.val (.bool false), .val (.int .i64 0), .val (.int .u64 0), .val (.slice none 0 0), .own 3 ((x2 ++ [(TCell.mk t16_3 0 0)]).length), .val (.slice none 0 0)]], 0, none⟩), (6, 3, ⟨3, (x2 ++ [(TCell.mk t16_3 0 0)]).map TCell.cells, 0, none⟩), (5, 4, ⟨3, [(TCell.mk t16_3 0 0)].map TCell.cells, 0, none⟩)] [[], [0], [], [2], [3, 2], [4, 3, 2], [1, 0, 5, 4, 3, 2], [0, 1, 2, 3, 4, 5, 6], [7, 0, 1, 2, 3, 4, 5, 6]] (by rfl) (by rfl) (by rfl) (by exact ⟨fun S hS hD hn => .one 0 hS hD hn rfl rfl (faP fa48_3 rfl) rfl rfl rfl, fun S hS hD hn => .one 0 hS hD hn rfl rfl (ldP rfl sz45 ag45 rfl) rfl rfl rfl, fun S hS hD hn => .one 0 hS hD hn rfl rfl (mvV rfl) rfl rfl rfl, fun S hS hD hn => .oneI hS hD hn rfl rfl (callee_of rfl go59 rfl) (.pure rfl rfl (r01_Worth.D g16_3)) rfl rfl rfl, fun S hS hD hn => .one 0 hS hD hn rfl rfl (bldS (cs := [.val (.int .u64 t16_3), .val (.int .i64 0), .val (.int .i64 0)]) ze72 pl72 rfl rfl) rfl rfl rfl, fun S hS hD hn => .one 4 hS hD hn rfl rfl (bldL (s := 3) (cs := [.val (.int .u64 t16_3), .val (.int .i64 0), .val (.int .i64 0)]) un45 sz72 ze72 ⟨by decide, rfl, by decide⟩ rfl rfl rfl rfl) rfl rfl rfl, fun S hS hD hn => .one 0 hS hD hn rfl rfl (ap1 (l := x2) (TCell.mk t16_3 0 0) sl45 rfl rfl rfl (Nat.zero_le _) (elems_own (l := [(TCell.mk t16_3 0 0)]) rfl rfl) g16_6) rfl rfl rfl, fun S hS hD hn => .one 0 hS hD hn rfl rfl (faP fa48_3 rfl) rfl rfl rfl, fun S hS hD hn => .one0 0 rfl rfl (stB (cs0 := [.val (.bool false), .val (.int .i64 0), .val (.int .u64 0), .val (.slice none 0 0), .own 3 x2.length, .val (.slice none 0 0)]) (cs := [.own 3 ((x2 ++ [(TCell.mk t16_3 0 0)]).length)]) (cs1 := [.val (.bool false), .val (.int .i64 0), .val (.int .u64 0), .val (.slice none 0 0), .own 3 ((x2 ++ [(TCell.mk t16_3 0 0)]).length), .val (.slice none 0 0)]) rfl rfl sz45 rfl ⟨Nat.le_of_ble_eq_true rfl, rfl⟩ rfl) (drawE_other _ _ _ _ rfl) rfl, trivial⟩) _ (by exact ⟨.ptr rfl, .ptr rfl, .ptr rfl, .free rfl rfl, trivial⟩) (by rfl)
          refine .inBlock ?_
          refine .reg0 rfl (.op 0 rfl (mvV rfl) <| .op 0 rfl (addI rfl rfl) <| .op 0 rfl (asV rfl) <| .nil0) ?_
          refine .keepL [0, 1, 2, 3] [(1, .ptr 0 1 3 0 0), (2, .ptr 1 1 6 0 0), (3, .ptr 2 1 6 0 0), (4, .val (.int .i64 (IntKind.i64.wrap (x3 + 1))))] [⟨3, [(TSpace.lit a0)], 0, none⟩, ⟨6, [[.val (.bool false), .val (.int .i64 0), .val (.int .u64 0), .val (.slice none 0 0), .val (.slice none 0 0), .val (.slice none 0 0)]], 0, none⟩, ⟨6, [[.val (.bool false), .val (.int .i64 0), .val (.int .u64 0), .val (.slice none 0 0), .own 3 ((x2 ++ [(TCell.mk t16_3 0 0)]).length), .val (.slice none 0 0)]], 0, none⟩, ⟨3, (x2 ++ [(TCell.mk t16_3 0 0)]).map TCell.cells, 0, none⟩] (by decide) (by decide) ⟨.ptr rfl, .ptr rfl, .ptr rfl, .free rfl rfl, trivial⟩ ⟨⟨_, rfl, bcBox (all2_free rfl)⟩, ⟨_, rfl, bcBox (all2_free rfl)⟩, ⟨_, rfl, bcBox (.cons (.free rfl rfl) <| .cons (.free rfl rfl) <| .cons (.free rfl rfl) <| .cons (.free rfl rfl) <| .cons (.own rfl) <| .cons (.free rfl rfl) <| .nil)⟩, ⟨_, rfl, bcRow (l := (x2 ++ [(TCell.mk t16_3 0 0)])) sl45 (Nat.le_refl _) rfl⟩, trivial⟩ ?_
          exact hn1 _ h
        · rw [if_neg c5] at h
          refine .condF rfl (decide_eq_false c5) ?_
          refine .exit rfl ?_
          refine .keepL [1, 2, 3] [(2, .ptr 0 1 6 0 0), (3, .ptr 1 1 6 0 0)] [⟨6, [[.val (.bool false), .val (.int .i64 0), .val (.int .u64 0), .val (.slice none 0 0), .val (.slice none 0 0), .val (.slice none 0 0)]], 0, none⟩, ⟨6, [[.val (.bool false), .val (.int .i64 0), .val (.int .u64 0), .val (.slice none 0 0), .own 2 x2.length, .val (.slice none 0 0)]], 0, none⟩, ⟨3, x2.map TCell.cells, 0, none⟩] (by decide) (by decide) ⟨.ptr rfl, .ptr rfl, trivial⟩ ⟨⟨_, rfl, bcBox (all2_free rfl)⟩, ⟨_, rfl, bcBox (.cons (.free rfl rfl) <| .cons (.free rfl rfl) <| .cons (.free rfl rfl) <| .cons (.free rfl rfl) <| .cons (.own rfl) <| .cons (.free rfl rfl) <| .nil)⟩, ⟨_, rfl, bcRow (l := x2) sl45 (Nat.le_refl _) rfl⟩, trivial⟩ ?_
          exact hx1 _ h
    · rw [if_neg c2] at h
      refine .condF rfl (beq_eq_false_iff_ne.mpr c2) ?_
      refine .seq ?_
      refine .reg0 rfl (.op 0 rfl (eqI rfl rfl) <| .op 0 rfl (asV rfl) <| .nil0) ?_
      by_cases c6 : a0.Tag = 5
      · rw [if_pos c6] at h
        refine .condT rfl (beq_iff_eq.mpr c6) ?_
        obtain ⟨g20_2, h⟩ := h
        obtain ⟨t20_4, g20_4, h⟩ := h
        obtain ⟨g20_7, h⟩ := h
        obtain ⟨t20_9, g20_9, h⟩ := h
        refine .room 0 ?_
        refine .reg1 (e1 := listEnv [(2, .ptr 1 1 6 0 0), (3, .ptr 2 1 6 0 0)]) (H1 := [⟨3, [(TSpace.lit a0)], 0, none⟩, ⟨6, [[.val (.bool false), .val (.int .i64 0), .val (.int .u64 0), .val (.slice none 0 0), .val (.slice none 0 0), .val (.slice none 0 0)]], 0, none⟩, ⟨6, [[.val (.bool false), .val (.int .i64 0), .val (.int .u64 0), .val (.slice none 0 0), .val (.slice none 0 0), .own 3 ([t20_4, t20_9].length)]], 0, none⟩, ⟨6, [t20_4, t20_9].map TWeight.cells, 0, none⟩]) rfl ?_ ?_
        · exact .drawM [(11, 46, .ptr 2 1 6 0 5), (10, 45, .own 3 ([t20_4, t20_9].length)), (9, 44, .agg (TWeight.lit t20_9)), (8, 43, .agg (TSpace.lit (rdl a0.Parts 1))), (7, 42, .cptr (TSpace.lit (rdl a0.Parts 1)) 0), (6, 41, .rows (a0.Parts.map TSpace.cells)), (5, 40, .ptr 0 1 3 0 2), (4, 39, .agg (TWeight.lit t20_4)), (3, 38, .agg (TSpace.lit (rdl a0.Parts 0))), (2, 37, .cptr (TSpace.lit (rdl a0.Parts 0)) 0), (1, 36, .rows (a0.Parts.map TSpace.cells)), (0, 35, .ptr 0 1 3 0 2)] [(12, 2, ⟨6, [[.val (.bool false), .val (.int .i64 0), .val (.int .u64 0), .val (.slice none 0 0), .val (.slice none 0 0), .own 3 ([t20_4, t20_9].length)]], 0, none⟩), (10, 3, ⟨6, [t20_4, t20_9].map TWeight.cells, 0, none⟩)] [[], [0], [1, 0], [2, 1, 0], [3, 2, 1, 0], [], [5], [6, 5], [7, 6, 5], [8, 7, 6, 5, 4, 3, 2, 1, 0], [4, 3, 2, 1, 0, 9, 8, 7, 6, 5], [0, 1, 2, 3, 4, 5, 6, 7, 8, 9, 10], [11, 0, 1, 2, 3, 4, 5, 6, 7, 8, 9, 10]] (by rfl) (by rfl) (by rfl) (by exact ⟨fun S hS hD hn => .one 0 hS hD hn rfl rfl (faP fa25_2 rfl) rfl rfl rfl, fun S hS hD hn => .one 0 hS hD hn rfl rfl (ldP rfl sz23 ag23 rfl) rfl rfl rfl, fun S hS hD hn => .one 0 hS hD hn rfl rfl (ixR (l := a0.Parts) (lit := TSpace.lit) sl23 rfl rfl TSpace.cells_lit g20_2.1 g20_2.2) rfl rfl rfl, fun S hS hD hn => .one 0 hS hD hn rfl rfl (ldCG rfl sz25 ag25 rfl) rfl rfl rfl, fun S hS hD hn => .oneI hS hD hn rfl rfl (callee_of rfl go43 rfl) (.pure rfl rfl (hs43 _ _ g20_4)) rfl rfl rfl, fun S hS hD hn => .one 0 hS hD hn rfl rfl (faP fa25_2 rfl) rfl rfl rfl, fun S hS hD hn => .one 0 hS hD hn rfl rfl (ldP rfl sz23 ag23 rfl) rfl rfl rfl, fun S hS hD hn => .one 0 hS hD hn rfl rfl (ixR (l := a0.Parts) (lit := TSpace.lit) sl23 rfl rfl TSpace.cells_lit g20_7.1 g20_7.2) rfl rfl rfl, fun S hS hD hn => .one 0 hS hD hn rfl rfl (ldCG rfl sz25 ag25 rfl) rfl rfl rfl, fun S hS hD hn => .oneI hS hD hn rfl rfl (callee_of rfl go43 rfl) (.pure rfl rfl (hs43 _ _ g20_9)) rfl rfl rfl, fun S hS hD hn => .one 3 hS hD hn rfl rfl (bldT (s := 6) (cs := [.val (.bool t20_4.Zero), .val (.int .i64 t20_4.Cost), .val (.int .u64 t20_4.Facts.Gen), .rows (t20_4.Facts.Rows.map (cInt .u64)), .rows (t20_4.Cells.map TCell.cells), .rows (t20_4.Parts.map TWeight.cells), .val (.bool t20_9.Zero), .val (.int .i64 t20_9.Cost), .val (.int .u64 t20_9.Facts.Gen), .rows (t20_9.Facts.Rows.map (cInt .u64)), .rows (t20_9.Cells.map TCell.cells), .rows (t20_9.Parts.map TWeight.cells)]) (cf := TWeight.cells) [t20_4, t20_9] un46 sz48 ze48 ⟨by decide, rfl, by decide⟩ rfl rfl rfl (by simp only [List.map, TWeight.cells_lit]; rfl) rfl) rfl rfl rfl, fun S hS hD hn => .one 0 hS hD hn rfl rfl (faP fa48_4 rfl) rfl rfl rfl, fun S hS hD hn => .one0 0 rfl rfl (stB (cs0 := [.val (.bool false), .val (.int .i64 0), .val (.int .u64 0), .val (.slice none 0 0), .val (.slice none 0 0), .val (.slice none 0 0)]) (cs := [.own 3 ([t20_4, t20_9].length)]) (cs1 := [.val (.bool false), .val (.int .i64 0), .val (.int .u64 0), .val (.slice none 0 0), .val (.slice none 0 0), .own 3 ([t20_4, t20_9].length)]) rfl rfl sz46 rfl ⟨Nat.le_of_ble_eq_true rfl, rfl⟩ rfl) (drawE_other _ _ _ _ rfl) rfl, trivial⟩) _ (by exact ⟨.ptr rfl, .ptr rfl, trivial⟩) (by rfl)
        refine .inBlock ?_
        refine .seq ?_
        refine .reg0 rfl (.op 0 rfl (ldG rfl sz48 ag48 rfl) <| .op 0 rfl (stB (cs0 := [.val (.bool false), .val (.int .i64 0), .val (.int .u64 0), .val (.slice none 0 0), .val (.slice none 0 0), .val (.slice none 0 0)]) (cs := [.val (.bool false), .val (.int .i64 0), .val (.int .u64 0), .val (.slice none 0 0), .val (.slice none 0 0), .own 3 ([t20_4, t20_9].length)]) (cs1 := [.val (.bool false), .val (.int .i64 0), .val (.int .u64 0), .val (.slice none 0 0), .val (.slice none 0 0), .own 3 ([t20_4, t20_9].length)]) rfl rfl sz48 rfl ⟨Nat.le_of_ble_eq_true rfl, rfl⟩ rfl) <| .nil0) ?_
        replace h := h.symm
        subst h
        refine .keepL [] [(2, .cptr [.val (.bool false), .val (.int .i64 0), .val (.int .u64 0), .rows (([] : List Int).map (cInt .u64)), .rows (([] : List TCell).map TCell.cells), .rows ([t20_4, t20_9].map TWeight.cells)] 0)] [] (by decide) (by decide) ⟨cFixP rfl rfl (.cons (.free rfl rfl) <| .cons (.free rfl rfl) <| .cons (.free rfl rfl) <| .cons (.nil) <| .cons (.nil) <| .cons (cFixO (l := [t20_4, t20_9]) sl46 rfl rfl rfl rfl) <| .nil), trivial⟩ trivial ?_
        exact .ret rfl
      · rw [if_neg c6] at h
        refine .condF rfl (beq_eq_false_iff_ne.mpr c6) ?_
        refine .skip ?_
        refine .inBlock ?_
        refine .seq ?_
        refine .reg0 rfl (.op 0 rfl (ldG rfl sz48 ag48 rfl) <| .op 0 rfl (stB (cs0 := [.val (.bool false), .val (.int .i64 0), .val (.int .u64 0), .val (.slice none 0 0), .val (.slice none 0 0), .val (.slice none 0 0)]) (cs := [.val (.bool false), .val (.int .i64 0), .val (.int .u64 0), .val (.slice none 0 0), .val (.slice none 0 0), .val (.slice none 0 0)]) (cs1 := [.val (.bool false), .val (.int .i64 0), .val (.int .u64 0), .val (.slice none 0 0), .val (.slice none 0 0), .val (.slice none 0 0)]) rfl rfl sz48 rfl ⟨Nat.le_of_ble_eq_true rfl, rfl⟩ rfl) <| .nil0) ?_
        replace h := h.symm
        subst h
        refine .keepL [] [(2, .cptr [.val (.bool false), .val (.int .i64 0), .val (.int .u64 0), .rows (([] : List Int).map (cInt .u64)), .rows (([] : List TCell).map TCell.cells), .rows (([] : List TWeight).map TWeight.cells)] 0)] [] (by decide) (by decide) ⟨cFixP rfl rfl (.cons (.free rfl rfl) <| .cons (.free rfl rfl) <| .cons (.free rfl rfl) <| .cons (.nil) <| .cons (.nil) <| .cons (.nil) <| .nil), trivial⟩ trivial ?_
        exact .ret rfl
def r05_one.fN : Nat → TSpace → TWeight → Prop
  | 0 => fun _ _ => False
  | n + 1 => r05_one.step (r05_one.fN n)
theorem r05_one.ND : ∀ (n : Nat) {a0 : TSpace} {r : TWeight} (h : r05_one.fN n a0 r), D Try.prog X (.callH 43 [.agg (TSpace.lit a0)] [] (.agg (TWeight.lit r)) [])
  | 0, _, _, h => h.elim
  | n + 1, _, _, h => r05_one.stepD (fun _ _ h => r05_one.ND n h) h
def r05_one.f (a0 : TSpace) (r : TWeight) : Prop := ∃ n, r05_one.fN n a0 r
theorem r05_one.D {a0 : TSpace} {r : TWeight} (h : r05_one.f a0 r) : D Try.prog X (.callH 43 [.agg (TSpace.lit a0)] [] (.agg (TWeight.lit r)) []) := by obtain ⟨n, h⟩ := h; exact r05_one.ND n h
def r05_One.f (a0 : TSpace) (r : TWeight × Int) : Prop :=
  ∃ t2_1 : Int, (r05_Space.f a0 t2_1) ∧ if t2_1 = 0 then (∃ t3_1 : TWeight, (r05_one.f a0 t3_1) ∧ r = (t3_1, 0)) else (r = ((TWeight.mk false 0 (TFacts.mk 0 []) [] []), 50))
theorem r05_One.D {a0 : TSpace} {r : TWeight × Int} (h : r05_One.f a0 r) : D Try.prog X (.callH 29 [.agg (TSpace.lit a0)] [] (.tuple [.agg (TWeight.lit r.1), .val (.int .i64 r.2)]) []) := by
  unfold r05_One.f at h
  refine .enter 10 0 fn29 rfl rfl rfl ?_
  refine .seq ?_
  refine .room 0 ?_
  refine .room 0 ?_
  refine .reg0 rfl (.op 0 rfl (bxP (s := 3) (cs := (TSpace.lit a0)) rfl ⟨rfl, by decide, rfl⟩ rfl) <| .op 1 rfl (alP (s := 6) ze48 ⟨rfl, by decide, rfl⟩ rfl) <| .op 0 rfl (asV rfl) <| .nil0) ?_
  refine .seq ?_
  refine .seq ?_
  obtain ⟨t2_1, g2_1, h⟩ := h
  refine .reg0 rfl (.op 0 rfl (ldG rfl sz25 ag25 rfl) <| .callI rfl (callee_of rfl go36 rfl) (.pure rfl rfl (r05_Space.D g2_1)) <| .op 0 rfl (neI rfl rfl) <| .nil0) ?_
  by_cases c1 : t2_1 = 0
  · rw [if_pos c1] at h
    refine .condF rfl (bne_eq_false_iff_eq.mpr c1) ?_
    refine .skip ?_
    refine .seq ?_
    obtain ⟨t3_1, g3_1, h⟩ := h
    refine .reg0 rfl (.op 0 rfl (ldG rfl sz25 ag25 rfl) <| .callI rfl (callee_of rfl go43 rfl) (.pure rfl rfl (r05_one.D g3_1)) <| .op 0 rfl (stB (cs0 := [.val (.bool false), .val (.int .i64 0), .val (.int .u64 0), .val (.slice none 0 0), .val (.slice none 0 0), .val (.slice none 0 0)]) (cs := (TWeight.lit t3_1)) (cs1 := (TWeight.lit t3_1)) rfl rfl sz48 rfl ⟨Nat.le_of_ble_eq_true rfl, rfl⟩ rfl) <| .op 0 rfl (asV rfl) <| .nil0) ?_
    replace h := h.symm
    subst h
    refine .keepL [] [(2, .cptr (TWeight.lit t3_1) 0), (3, .val (.int .i64 0))] [] (by decide) (by decide) ⟨cFixP rfl rfl (.cons (.free rfl rfl) <| .cons (.free rfl rfl) <| .cons (.free rfl rfl) <| .cons (.free rfl rfl) <| .cons (.free rfl rfl) <| .cons (.free rfl rfl) <| .nil), .free rfl rfl, trivial⟩ trivial ?_
    exact .ret rfl
  · rw [if_neg c1] at h
    refine .condT rfl (bne_iff_ne.mpr c1) ?_
    refine .seq ?_
    refine .reg0 rfl (.op 0 rfl (bldS (cs := [.val (.bool false), .val (.int .i64 0), .val (.int .u64 0), .val (.slice none 0 0), .val (.slice none 0 0), .val (.slice none 0 0)]) ze48 pl48 rfl rfl) <| .op 0 rfl (stB (cs0 := [.val (.bool false), .val (.int .i64 0), .val (.int .u64 0), .val (.slice none 0 0), .val (.slice none 0 0), .val (.slice none 0 0)]) (cs := [.val (.bool false), .val (.int .i64 0), .val (.int .u64 0), .val (.slice none 0 0), .val (.slice none 0 0), .val (.slice none 0 0)]) (cs1 := [.val (.bool false), .val (.int .i64 0), .val (.int .u64 0), .val (.slice none 0 0), .val (.slice none 0 0), .val (.slice none 0 0)]) rfl rfl sz48 rfl ⟨Nat.le_of_ble_eq_true rfl, rfl⟩ rfl) <| .op 0 rfl (asV rfl) <| .nil0) ?_
    replace h := h.symm
    subst h
    refine .keepL [] [(2, .cptr [.val (.bool false), .val (.int .i64 0), .val (.int .u64 0), .rows (([] : List Int).map (cInt .u64)), .rows (([] : List TCell).map TCell.cells), .rows (([] : List TWeight).map TWeight.cells)] 0), (3, .val (.int .i64 50))] [] (by decide) (by decide) ⟨cFixP rfl rfl (.cons (.free rfl rfl) <| .cons (.free rfl rfl) <| .cons (.free rfl rfl) <| .cons (.nil) <| .cons (.nil) <| .cons (.nil) <| .nil), .free rfl rfl, trivial⟩ trivial ?_
    exact .ret rfl
def r10_One.f (a0 : TSpace) (r : TWeight) : Prop :=
  ∃ t2_1 : TWeight × Int, (r05_One.f a0 t2_1) ∧ r = t2_1.1
theorem r10_One.D {a0 : TSpace} {r : TWeight} (h : r10_One.f a0 r) : D Try.prog X (.callH 13 [.agg (TSpace.lit a0)] [] (.agg (TWeight.lit r)) []) := by
  unfold r10_One.f at h
  refine .enter 11 0 fn13 rfl rfl rfl ?_
  refine .seq ?_
  refine .room 0 ?_
  refine .room 0 ?_
  refine .reg0 rfl (.op 0 rfl (bxP (s := 3) (cs := (TSpace.lit a0)) rfl ⟨rfl, by decide, rfl⟩ rfl) <| .op 1 rfl (alP (s := 6) ze48 ⟨rfl, by decide, rfl⟩ rfl) <| .nil0) ?_
  refine .seq ?_
  obtain ⟨t2_1, g2_1, h⟩ := h
  refine .room 0 ?_
  refine .reg0 rfl (.op 0 rfl (ldG rfl sz25 ag25 rfl) <| .callI rfl (callee_of rfl go29 rfl) (.pure rfl rfl (r05_One.D g2_1)) <| .op 0 rfl (mvT rfl) <| .op 0 rfl (exT rfl rfl) <| .op 0 rfl (exT rfl rfl) <| .op 2 rfl (alP (s := 6) ze48 ⟨rfl, by decide, rfl⟩ rfl) <| .op 0 rfl (stB (cs0 := [.val (.bool false), .val (.int .i64 0), .val (.int .u64 0), .val (.slice none 0 0), .val (.slice none 0 0), .val (.slice none 0 0)]) (cs := (TWeight.lit t2_1.1)) (cs1 := (TWeight.lit t2_1.1)) rfl rfl sz48 rfl ⟨Nat.le_of_ble_eq_true rfl, rfl⟩ rfl) <| .op 0 rfl (asV rfl) <| .nil0) ?_
  refine .seq ?_
  refine .reg0 rfl (.op 0 rfl (ldG rfl sz48 ag48 rfl) <| .op 0 rfl (stB (cs0 := [.val (.bool false), .val (.int .i64 0), .val (.int .u64 0), .val (.slice none 0 0), .val (.slice none 0 0), .val (.slice none 0 0)]) (cs := (TWeight.lit t2_1.1)) (cs1 := (TWeight.lit t2_1.1)) rfl rfl sz48 rfl ⟨Nat.le_of_ble_eq_true rfl, rfl⟩ rfl) <| .nil0) ?_
  replace h := h.symm
  subst h
  refine .keepL [] [(2, .cptr (TWeight.lit t2_1.1) 0)] [] (by decide) (by decide) ⟨cFixP rfl rfl (.cons (.free rfl rfl) <| .cons (.free rfl rfl) <| .cons (.free rfl rfl) <| .cons (.free rfl rfl) <| .cons (.free rfl rfl) <| .cons (.free rfl rfl) <| .nil), trivial⟩ trivial ?_
  exact .ret rfl
end Go.RM.Try
