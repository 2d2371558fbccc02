/- GK, for the statement PdsTops: what it needs, no more. -/
import Derived.Test.YtiiagjedhhmnbaaZPdsTopsGI
set_option linter.unusedVariables false
set_option maxRecDepth 8000
set_option maxHeartbeats 4000000
namespace Go.RM.Try
open Go.RM Go.Proofs
variable {X : FuncId → List PV → Heap → PV → Heap → Prop}
def pds_Top.j1 (x5 : Int) : (List Int) → (Rnd (((List Int) × Int)) ((List Int)) ((List Int) × Int)) → Prop := fun x10 z1 => z1 = .next (x10, (IntKind.i64.wrap (x5 + 1)))
def pds_Top.b1 (a0 : TPds) (a1 : Int) (a2 : Int) : ((List Int) × Int) → Rnd (((List Int) × Int)) ((List Int)) ((List Int) × Int) → Prop := fun (x4, x5) z1 => if x5 < (a0.Rules.length : Int) then (((InR x5 a0.Rules.length)) ∧ if (((rdl a0.Rules x5).P == a1) && (((rdl a0.Rules x5).G == a2) && true)) = true then (((Fits (x4.length + 1) 8)) ∧ pds_Top.j1 x5 (x4 ++ [x5]) z1) else (pds_Top.j1 x5 x4 z1)) else (z1 = .exit x4)
def pds_Top.f (a0 : TPds) (a1 : Int) (a2 : Int) (r : (List Int) × Int) : Prop :=
  ∃ t2_1 : Int, (pds_Check.f a0 t2_1) ∧ if t2_1 = 0 then (∃ t4_3 : Bool, (pds_in.f a1 a0.States t4_3) ∧ ∃ t4_9 : Bool, ((t4_3 = true) → pds_in.f a2 a0.Symbols t4_9) ∧ if ((!t4_3) || (!t4_9)) = true then (r = ([], 5)) else (∃ o1 : Fin ((List Int)) ((List Int) × Int), Loop (pds_Top.b1 a0 a1 a2) ([], 0) o1 ∧ o1.on (fun x8 => r = (x8, 0)) (fun r_ => r = r_))) else (r = ([], t2_1))
theorem pds_Top.D {a0 : TPds} {a1 : Int} {a2 : Int} {r : (List Int) × Int} (h : pds_Top.f a0 a1 a2 r) : D Try.prog X (.callH 16 [.agg (TPds.lit a0), .val (.int .i64 a1), .val (.int .i64 a2)] [] (.tuple [.rows (r.1.map (cInt .i64)), .val (.int .i64 r.2)]) []) := by
  unfold pds_Top.f at h
  refine .enter 52 0 fn16 rfl rfl rfl ?_
  refine .seq ?_
  refine .room 0 ?_
  refine .reg0 rfl (.op 0 rfl (bxP (s := 6) (cs := (TPds.lit a0)) rfl ⟨rfl, by decide, rfl⟩ rfl) <| .op 0 rfl (asV rfl) <| .op 0 rfl (asV rfl) <| .nil0) ?_
  refine .seq ?_
  refine .seq ?_
  obtain ⟨t2_1, g2_1, h⟩ := h
  refine .reg0 rfl (.op 0 rfl (ldG rfl sz28 ag28 rfl) <| .callI rfl (callee_of rfl go19 rfl) (.pure rfl rfl (pds_Check.D g2_1)) <| .op 0 rfl (asV rfl) <| .nil0) ?_
  refine .seq ?_
  refine .reg0 rfl (.op 0 rfl (mvV rfl) <| .op 0 rfl (neI rfl rfl) <| .nil0) ?_
  by_cases c1 : t2_1 = 0
  · rw [if_pos c1] at h
    refine .condF rfl (bne_eq_false_iff_eq.mpr c1) ?_
    refine .skip ?_
    refine .seq ?_
    refine .seq ?_
    obtain ⟨t4_3, g4_3, h⟩ := h
    obtain ⟨t4_9, g4_9, h⟩ := h
    refine .reg0 (e1 := listEnv [(1, .val (.int .i64 a1)), (2, .val (.int .i64 a2)), (3, .ptr 0 1 6 0 0), (28, .val (.bool ((!t4_3) || (!t4_9))))]) (H1 := [⟨6, [(TPds.lit a0)], 0, none⟩]) rfl ?_ ?_
    · by_cases c2 : t4_3 = true
      · exact (.op 0 rfl (mvV rfl) <| .op 0 rfl (faP fa28_1 rfl) <| .op 0 rfl (ldP rfl sz3 ag3 rfl) <| .callI rfl (callee_of rfl go31 rfl) (.pure rfl rfl (pds_in.D g4_3)) <| .op 0 rfl (notB rfl) <| .op 0 rfl (mvV rfl) <| .op 0 (gT rfl rfl rfl (bnotF c2)) (mvV rfl) <| .op 0 (gT rfl rfl rfl (bnotF c2)) (faP fa28_2 rfl) <| .op 0 (gT rfl rfl rfl (bnotF c2)) (ldP rfl sz3 ag3 rfl) <| .callI (gT rfl rfl rfl (bnotF c2)) (callee_of rfl go31 rfl) (.pure rfl rfl (pds_in.D (g4_9 c2))) <| .op 0 (gT rfl rfl rfl (bnotF c2)) (notB rfl) <| .op 0 rfl (pkFV rfl (bnotF c2) rfl) <| .nilL _ ⟨.free rfl rfl, .free rfl rfl, .ptr rfl, cB rfl (mOrF (bnotF c2) rfl), trivial⟩)
      · exact (.op 0 rfl (mvV rfl) <| .op 0 rfl (faP fa28_1 rfl) <| .op 0 rfl (ldP rfl sz3 ag3 rfl) <| .callI rfl (callee_of rfl go31 rfl) (.pure rfl rfl (pds_in.D g4_3)) <| .op 0 rfl (notB rfl) <| .op 0 rfl (mvV rfl) <| .no (gF rfl rfl rfl (bnotT (Bool.eq_false_iff.mpr c2))) <| .no (gF rfl rfl rfl (bnotT (Bool.eq_false_iff.mpr c2))) <| .no (gF rfl rfl rfl (bnotT (Bool.eq_false_iff.mpr c2))) <| .no (gF rfl rfl rfl (bnotT (Bool.eq_false_iff.mpr c2))) <| .no (gF rfl rfl rfl (bnotT (Bool.eq_false_iff.mpr c2))) <| .op 0 rfl (pkTV rfl (bnotT (Bool.eq_false_iff.mpr c2)) rfl) <| .nilL _ ⟨.free rfl rfl, .free rfl rfl, .ptr rfl, cB rfl (mOrT (bnotT (Bool.eq_false_iff.mpr c2))), trivial⟩)
    by_cases c3 : ((!t4_3) || (!t4_9)) = true
    · rw [if_pos c3] at h
      refine .condT rfl c3 ?_
      refine .seq ?_
      refine .reg0 rfl (.op 0 rfl (asV rfl) <| .op 0 rfl (asV rfl) <| .nil0) ?_
      replace h := h.symm
      subst h
      refine .keepL [] [(6, .rows (([] : List Int).map (cInt .i64))), (7, .val (.int .i64 5))] [] (by decide) (by decide) ⟨.nil, .free rfl rfl, trivial⟩ trivial ?_
      exact .ret rfl
    · rw [if_neg c3] at h
      refine .condF rfl (Bool.eq_false_iff.mpr c3) ?_
      refine .skip ?_
      refine .seq ?_
      refine .reg0 rfl (.op 0 rfl (asV rfl) <| .nil0) ?_
      refine .seq ?_
      refine .seq ?_
      refine .reg0 rfl (.op 0 rfl (faP fa28_3 rfl) <| .op 0 rfl (ldP rfl sz26 ag26 rfl) <| .op 0 rfl (lnR (l := a0.Rules) sl26 rfl) <| .op 0 rfl (mvV rfl) <| .nil0) ?_
      refine .block ?_
      refine .room 1 ?_
      refine .keepL [1] [(1, .val (.int .i64 a1)), (2, .val (.int .i64 a2)), (9, .own 0 0), (30, .rows (a0.Rules.map TRule.cells)), (31, .val (.int .i64 (a0.Rules.length : Int))), (32, .val (.int .i64 0))] [⟨1, [].map (cInt .i64), 0, none⟩] (by decide) (by decide) ⟨.free rfl rfl, .free rfl rfl, .nilOwn, .free rfl rfl, .free rfl rfl, .free rfl rfl, trivial⟩ ⟨⟨_, rfl, (bcRow (l := []) sl30 (Nat.le_refl _) rfl)⟩, trivial⟩ ?_
      obtain ⟨o1, hL1, h⟩ := h
      refine .loopB (pds_Top.b1 a0 a1 a2) (fun (x4, x5) => listEnv [(1, .val (.int .i64 a1)), (2, .val (.int .i64 a2)), (9, .own 0 x4.length), (30, .rows (a0.Rules.map TRule.cells)), (31, .val (.int .i64 (a0.Rules.length : Int))), (32, .val (.int .i64 x5))]) (fun (x4, x5) => [⟨1, x4.map (cInt .i64), 0, none⟩]) (fun x8 => listEnv [(9, .own 0 x8.length)]) (fun x8 => [⟨1, x8.map (cInt .i64), 0, none⟩]) hL1 (fun r_ => r = r_) ?_ ?_ ?_
      · rintro x8 rfl
        try dsimp only [Fin.on] at h
        refine .seq ?_
        refine .reg0 rfl (.op 0 rfl (mvO rfl) <| .op 0 rfl (asO rfl) <| .op 0 rfl (asV rfl) <| .nil0) ?_
        replace h := h.symm
        subst h
        refine .keepL [] [(6, .rows (x8.map (cInt .i64))), (7, .val (.int .i64 0))] [] (by decide) (by decide) ⟨cFixO (l := x8) sl30 rfl rfl rfl rfl, .free rfl rfl, trivial⟩ trivial ?_
        exact .ret rfl
      · rintro r_ rfl
        exact h
      · rintro ⟨x4, x5⟩ z1 h hn1 hx1 hr1
        dsimp only [pds_Top.b1] at h
        refine .seq ?_
        refine .reg0 rfl (.op 0 rfl (ltI rfl rfl) <| .nil0) ?_
        refine .seq ?_
        by_cases c14 : x5 < (a0.Rules.length : Int)
        · rw [if_pos c14] at h
          refine .condT rfl (decide_eq_true c14) ?_
          refine .skip ?_
          refine .seq ?_
          refine .block ?_
          refine .seq ?_
          obtain ⟨g33_1, h⟩ := h
          refine .room 0 ?_
          refine .reg0 rfl (.op 0 rfl (mvV rfl) <| .op 0 rfl (ixR (l := a0.Rules) (lit := TRule.lit) sl26 rfl rfl (fun _ => rfl) g33_1.1 g33_1.2) <| .op 0 rfl (ldCG rfl sz51 ag51 rfl) <| .op 1 rfl (alP (s := 10) ze51 ⟨rfl, by decide, rfl⟩ rfl) <| .op 0 rfl (asV rfl) <| .op 0 rfl (stB (cs0 := [.val (.int .i64 0), .val (.int .i64 0), .val (.int .i64 0), .val (.slice none 0 0), .val (.bool false), .val (.int .i64 0), .val (.int .u64 0), .val (.slice none 0 0), .val (.slice none 0 0), .val (.slice none 0 0)]) (cs := (TRule.lit (rdl a0.Rules x5))) (cs1 := (TRule.lit (rdl a0.Rules x5))) rfl rfl sz51 rfl ⟨Nat.le_of_ble_eq_true rfl, rfl⟩ rfl) <| .nil0) ?_
          refine .seq ?_
          refine .reg0 rfl (.op 0 rfl (faP fa51_0 rfl) <| .op 0 rfl (ldP rfl sz3 ag3 rfl) <| .op 0 rfl (faP fa51_1 rfl) <| .op 0 rfl (ldP rfl sz3 ag3 rfl) <| .op 0 rfl (bldA (cs := [.val (.int .i64 ((rdl a0.Rules x5).P)), .val (.int .i64 ((rdl a0.Rules x5).G))]) ze85 un85 sz3 rfl rfl) <| .op 0 rfl (mvV rfl) <| .op 0 rfl (mvV rfl) <| .op 0 rfl (bldA (cs := [.val (.int .i64 a1), .val (.int .i64 a2)]) ze85 un85 sz3 rfl rfl) <| .op 0 rfl (eqS (xs := [.int .i64 ((rdl a0.Rules x5).P), .int .i64 ((rdl a0.Rules x5).G)]) (ys := [.int .i64 a1, .int .i64 a2]) ek85 rfl rfl rfl rfl rfl) <| .nil0) ?_
          refine .consJ (fun s_ => pds_Top.j1 x5 s_ z1) (fun x10 => listEnv [(1, .val (.int .i64 a1)), (2, .val (.int .i64 a2)), (9, .own 0 x10.length), (30, .rows (a0.Rules.map TRule.cells)), (31, .val (.int .i64 (a0.Rules.length : Int))), (32, .val (.int .i64 x5))]) (fun x10 => [⟨1, x10.map (cInt .i64), 0, none⟩]) ?_ fun hJ1 => ?_
          · rintro x10 h
            unfold pds_Top.j1 at h
            try dsimp only at h
            refine .inBlock ?_
            refine .reg0 rfl (.op 0 rfl (addI rfl rfl) <| .op 0 rfl (mvV rfl) <| .nil0) ?_
            refine .keepL [0] [(1, .val (.int .i64 a1)), (2, .val (.int .i64 a2)), (9, .own 0 x10.length), (30, .rows (a0.Rules.map TRule.cells)), (31, .val (.int .i64 (a0.Rules.length : Int))), (32, .val (.int .i64 (IntKind.i64.wrap (x5 + 1))))] [⟨1, x10.map (cInt .i64), 0, none⟩] (by decide) (by decide) ⟨.free rfl rfl, .free rfl rfl, .own rfl, .free rfl rfl, .free rfl rfl, .free rfl rfl, trivial⟩ ⟨⟨_, rfl, bcRow (l := x10) sl30 (Nat.le_refl _) rfl⟩, trivial⟩ ?_
            exact hn1 _ h
          · by_cases c18 : (((rdl a0.Rules x5).P == a1) && (((rdl a0.Rules x5).G == a2) && true)) = true
            · rw [if_pos c18] at h
              refine .condT rfl c18 ?_
              obtain ⟨g37_3, h⟩ := h
              refine .room 0 ?_
              refine .room 0 ?_
              refine .reg0 rfl (.op 0 rfl (mvO rfl) <| .op 0 rfl (mvV rfl) <| .op 2 rfl (bldL (s := 1) (cs := [.val (.int .i64 x5)]) un30 sz3 ze3 ⟨by decide, rfl, by decide⟩ rfl rfl rfl rfl) <| .op 0 rfl (ap1 (l := x4) x5 sl30 rfl rfl rfl (Nat.zero_le _) (elems_own (l := [x5]) rfl rfl) g37_3) <| .op 0 rfl (asO rfl) <| .nil0) ?_
              refine .keepL [0] [(1, .val (.int .i64 a1)), (2, .val (.int .i64 a2)), (9, .own 0 ((x4 ++ [x5]).length)), (30, .rows (a0.Rules.map TRule.cells)), (31, .val (.int .i64 (a0.Rules.length : Int))), (32, .val (.int .i64 x5))] [⟨1, (x4 ++ [x5]).map (cInt .i64), 0, none⟩] (by decide) (by decide) ⟨.free rfl rfl, .free rfl rfl, .own rfl, .free rfl rfl, .free rfl rfl, .free rfl rfl, trivial⟩ ⟨⟨_, rfl, bcRow (l := (x4 ++ [x5])) sl30 (Nat.le_refl _) rfl⟩, trivial⟩ ?_
              exact hJ1 _ h
            · rw [if_neg c18] at h
              refine .condF rfl (Bool.eq_false_iff.mpr c18) ?_
              refine .skip ?_
              refine .keepL [0] [(1, .val (.int .i64 a1)), (2, .val (.int .i64 a2)), (9, .own 0 x4.length), (30, .rows (a0.Rules.map TRule.cells)), (31, .val (.int .i64 (a0.Rules.length : Int))), (32, .val (.int .i64 x5))] [⟨1, x4.map (cInt .i64), 0, none⟩] (by decide) (by decide) ⟨.free rfl rfl, .free rfl rfl, .own rfl, .free rfl rfl, .free rfl rfl, .free rfl rfl, trivial⟩ ⟨⟨_, rfl, bcRow (l := x4) sl30 (Nat.le_refl _) rfl⟩, trivial⟩ ?_
              exact hJ1 _ h
        · rw [if_neg c14] at h
          refine .condF rfl (decide_eq_false c14) ?_
          refine .exit rfl ?_
          refine .keepL [0] [(9, .own 0 x4.length)] [⟨1, x4.map (cInt .i64), 0, none⟩] (by decide) (by decide) ⟨.own rfl, trivial⟩ ⟨⟨_, rfl, bcRow (l := x4) sl30 (Nat.le_refl _) rfl⟩, trivial⟩ ?_
          exact hx1 _ h
  · rw [if_neg c1] at h
    refine .condT rfl (bne_iff_ne.mpr c1) ?_
    refine .seq ?_
    refine .reg0 rfl (.op 0 rfl (mvV rfl) <| .op 0 rfl (asV rfl) <| .op 0 rfl (asV rfl) <| .nil0) ?_
    replace h := h.symm
    subst h
    refine .keepL [] [(6, .rows (([] : List Int).map (cInt .i64))), (7, .val (.int .i64 t2_1))] [] (by decide) (by decide) ⟨.nil, .free rfl rfl, trivial⟩ trivial ?_
    exact .ret rfl
def r11_Top.j1 (x5 : Int) : (List Int) → (Rnd (((List Int) × Int)) ((List Int)) ((List Int) × Int)) → Prop := fun x10 z1 => z1 = .next (x10, (IntKind.i64.wrap (x5 + 1)))
def r11_Top.b1 (a0 : TPds) (a1 : Int) (a2 : Int) : ((List Int) × Int) → Rnd (((List Int) × Int)) ((List Int)) ((List Int) × Int) → Prop := fun (x4, x5) z1 => if x5 < (a0.Rules.length : Int) then (((InR x5 a0.Rules.length)) ∧ (((rdl a0.Rules x5).P = a1) → (InR x5 a0.Rules.length)) ∧ if (((rdl a0.Rules x5).P == a1) && ((rdl a0.Rules x5).G == a2)) = true then (((Fits (x4.length + 1) 8)) ∧ r11_Top.j1 x5 (x4 ++ [x5]) z1) else (r11_Top.j1 x5 x4 z1)) else (z1 = .exit x4)
def r11_Top.f (a0 : TPds) (a1 : Int) (a2 : Int) (r : (List Int) × Int) : Prop :=
  ∃ t2_1 : Int, (r11_Check.f a0 t2_1) ∧ if t2_1 = 0 then (∃ t4_3 : Bool, (r11_in.f a1 a0.States t4_3) ∧ ∃ t4_9 : Bool, ((t4_3 = true) → r11_in.f a2 a0.Symbols t4_9) ∧ if ((!t4_3) || (!t4_9)) = true then (r = ([], 5)) else (∃ o1 : Fin ((List Int)) ((List Int) × Int), Loop (r11_Top.b1 a0 a1 a2) ([], 0) o1 ∧ o1.on (fun x8 => r = (x8, 0)) (fun r_ => r = r_))) else (r = ([], t2_1))
theorem r11_Top.D {a0 : TPds} {a1 : Int} {a2 : Int} {r : (List Int) × Int} (h : r11_Top.f a0 a1 a2 r) : D Try.prog X (.callH 17 [.agg (TPds.lit a0), .val (.int .i64 a1), .val (.int .i64 a2)] [] (.tuple [.rows (r.1.map (cInt .i64)), .val (.int .i64 r.2)]) []) := by
  unfold r11_Top.f at h
  refine .enter 58 0 fn17 rfl rfl rfl ?_
  refine .seq ?_
  refine .room 0 ?_
  refine .reg0 rfl (.op 0 rfl (bxP (s := 6) (cs := (TPds.lit a0)) rfl ⟨rfl, by decide, rfl⟩ rfl) <| .op 0 rfl (asV rfl) <| .op 0 rfl (asV rfl) <| .nil0) ?_
  refine .seq ?_
  obtain ⟨t2_1, g2_1, h⟩ := h
  refine .reg0 rfl (.op 0 rfl (ldG rfl sz28 ag28 rfl) <| .callI rfl (callee_of rfl go23 rfl) (.pure rfl rfl (r11_Check.D g2_1)) <| .op 0 rfl (asV rfl) <| .nil0) ?_
  refine .seq ?_
  refine .seq ?_
  refine .reg0 rfl (.op 0 rfl (mvV rfl) <| .op 0 rfl (neI rfl rfl) <| .nil0) ?_
  by_cases c1 : t2_1 = 0
  · rw [if_pos c1] at h
    refine .condF rfl (bne_eq_false_iff_eq.mpr c1) ?_
    refine .skip ?_
    refine .seq ?_
    refine .seq ?_
    obtain ⟨t4_3, g4_3, h⟩ := h
    obtain ⟨t4_9, g4_9, h⟩ := h
    refine .reg0 (e1 := listEnv [(1, .val (.int .i64 a1)), (2, .val (.int .i64 a2)), (3, .ptr 0 1 6 0 0), (27, .val (.bool ((!t4_3) || (!t4_9))))]) (H1 := [⟨6, [(TPds.lit a0)], 0, none⟩]) rfl ?_ ?_
    · by_cases c2 : t4_3 = true
      · exact (.op 0 rfl (mvV rfl) <| .op 0 rfl (faP fa28_1 rfl) <| .op 0 rfl (ldP rfl sz3 ag3 rfl) <| .callI rfl (callee_of rfl go32 rfl) (.pure rfl rfl (r11_in.D g4_3)) <| .op 0 rfl (notB rfl) <| .op 0 rfl (mvV rfl) <| .op 0 (gT rfl rfl rfl (bnotF c2)) (mvV rfl) <| .op 0 (gT rfl rfl rfl (bnotF c2)) (faP fa28_2 rfl) <| .op 0 (gT rfl rfl rfl (bnotF c2)) (ldP rfl sz3 ag3 rfl) <| .callI (gT rfl rfl rfl (bnotF c2)) (callee_of rfl go32 rfl) (.pure rfl rfl (r11_in.D (g4_9 c2))) <| .op 0 (gT rfl rfl rfl (bnotF c2)) (notB rfl) <| .op 0 rfl (pkFV rfl (bnotF c2) rfl) <| .nilL _ ⟨.free rfl rfl, .free rfl rfl, .ptr rfl, cB rfl (mOrF (bnotF c2) rfl), trivial⟩)
      · exact (.op 0 rfl (mvV rfl) <| .op 0 rfl (faP fa28_1 rfl) <| .op 0 rfl (ldP rfl sz3 ag3 rfl) <| .callI rfl (callee_of rfl go32 rfl) (.pure rfl rfl (r11_in.D g4_3)) <| .op 0 rfl (notB rfl) <| .op 0 rfl (mvV rfl) <| .no (gF rfl rfl rfl (bnotT (Bool.eq_false_iff.mpr c2))) <| .no (gF rfl rfl rfl (bnotT (Bool.eq_false_iff.mpr c2))) <| .no (gF rfl rfl rfl (bnotT (Bool.eq_false_iff.mpr c2))) <| .no (gF rfl rfl rfl (bnotT (Bool.eq_false_iff.mpr c2))) <| .no (gF rfl rfl rfl (bnotT (Bool.eq_false_iff.mpr c2))) <| .op 0 rfl (pkTV rfl (bnotT (Bool.eq_false_iff.mpr c2)) rfl) <| .nilL _ ⟨.free rfl rfl, .free rfl rfl, .ptr rfl, cB rfl (mOrT (bnotT (Bool.eq_false_iff.mpr c2))), trivial⟩)
    by_cases c3 : ((!t4_3) || (!t4_9)) = true
    · rw [if_pos c3] at h
      refine .condT rfl c3 ?_
      refine .seq ?_
      refine .reg0 rfl (.op 0 rfl (asV rfl) <| .op 0 rfl (asV rfl) <| .nil0) ?_
      replace h := h.symm
      subst h
      refine .keepL [] [(6, .rows (([] : List Int).map (cInt .i64))), (7, .val (.int .i64 5))] [] (by decide) (by decide) ⟨.nil, .free rfl rfl, trivial⟩ trivial ?_
      exact .ret rfl
    · rw [if_neg c3] at h
      refine .condF rfl (Bool.eq_false_iff.mpr c3) ?_
      refine .skip ?_
      refine .seq ?_
      refine .reg0 rfl (.op 0 rfl (asV rfl) <| .nil0) ?_
      refine .seq ?_
      refine .seq ?_
      refine .reg0 rfl (.op 0 rfl (asV rfl) <| .nil0) ?_
      refine .block ?_
      refine .room 1 ?_
      refine .keepL [0, 1] [(1, .val (.int .i64 a1)), (2, .val (.int .i64 a2)), (3, .ptr 0 1 6 0 0), (9, .own 1 0), (10, .val (.int .i64 0))] [⟨6, [(TPds.lit a0)], 0, none⟩, ⟨1, [].map (cInt .i64), 0, none⟩] (by decide) (by decide) ⟨.free rfl rfl, .free rfl rfl, .ptr rfl, .nilOwn, .free rfl rfl, trivial⟩ ⟨⟨_, rfl, bcBox (all2_free rfl)⟩, ⟨_, rfl, (bcRow (l := []) sl30 (Nat.le_refl _) rfl)⟩, trivial⟩ ?_
      obtain ⟨o1, hL1, h⟩ := h
      refine .loopB (r11_Top.b1 a0 a1 a2) (fun (x4, x5) => listEnv [(1, .val (.int .i64 a1)), (2, .val (.int .i64 a2)), (3, .ptr 0 1 6 0 0), (9, .own 1 x4.length), (10, .val (.int .i64 x5))]) (fun (x4, x5) => [⟨6, [(TPds.lit a0)], 0, none⟩, ⟨1, x4.map (cInt .i64), 0, none⟩]) (fun x8 => listEnv [(9, .own 0 x8.length)]) (fun x8 => [⟨1, x8.map (cInt .i64), 0, none⟩]) hL1 (fun r_ => r = r_) ?_ ?_ ?_
      · rintro x8 rfl
        try dsimp only [Fin.on] at h
        refine .seq ?_
        refine .reg0 rfl (.op 0 rfl (mvO rfl) <| .op 0 rfl (asO rfl) <| .op 0 rfl (asV rfl) <| .nil0) ?_
        replace h := h.symm
        subst h
        refine .keepL [] [(6, .rows (x8.map (cInt .i64))), (7, .val (.int .i64 0))] [] (by decide) (by decide) ⟨cFixO (l := x8) sl30 rfl rfl rfl rfl, .free rfl rfl, trivial⟩ trivial ?_
        exact .ret rfl
      · rintro r_ rfl
        exact h
      · rintro ⟨x4, x5⟩ z1 h hn1 hx1 hr1
        dsimp only [r11_Top.b1] at h
        refine .seq ?_
        refine .seq ?_
        refine .reg0 rfl (.op 0 rfl (mvV rfl) <| .op 0 rfl (faP fa28_3 rfl) <| .op 0 rfl (ldP rfl sz26 ag26 rfl) <| .op 0 rfl (lnR (l := a0.Rules) sl26 rfl) <| .op 0 rfl (ltI rfl rfl) <| .nil0) ?_
        by_cases c18 : x5 < (a0.Rules.length : Int)
        · rw [if_pos c18] at h
          refine .condT rfl (decide_eq_true c18) ?_
          refine .skip ?_
          refine .seq ?_
          refine .block ?_
          refine .seq ?_
          obtain ⟨g28_3, h⟩ := h
          obtain ⟨g28_12, h⟩ := h
          refine .reg0 (e1 := listEnv [(1, .val (.int .i64 a1)), (2, .val (.int .i64 a2)), (3, .ptr 0 1 6 0 0), (9, .own 1 x4.length), (10, .val (.int .i64 x5)), (52, .val (.bool (((rdl a0.Rules x5).P == a1) && ((rdl a0.Rules x5).G == a2))))]) (H1 := [⟨6, [(TPds.lit a0)], 0, none⟩, ⟨1, x4.map (cInt .i64), 0, none⟩]) rfl ?_ ?_
          · by_cases c22 : (rdl a0.Rules x5).P = a1
            · exact (.op 0 rfl (faP fa28_3 rfl) <| .op 0 rfl (ldP rfl sz26 ag26 rfl) <| .op 0 rfl (mvV rfl) <| .op 0 rfl (ixR (l := a0.Rules) (lit := TRule.lit) sl26 rfl rfl (fun _ => rfl) g28_3.1 g28_3.2) <| .op 0 rfl (faC fa51_0 rfl) <| .op 0 rfl (ldC rfl sz3 ag3 rfl) <| .op 0 rfl (mvV rfl) <| .op 0 rfl (eqI rfl rfl) <| .op 0 rfl (mvV rfl) <| .op 0 (gT rfl rfl rfl (beq_iff_eq.mpr c22)) (faP fa28_3 rfl) <| .op 0 (gT rfl rfl rfl (beq_iff_eq.mpr c22)) (ldP rfl sz26 ag26 rfl) <| .op 0 (gT rfl rfl rfl (beq_iff_eq.mpr c22)) (mvV rfl) <| .op 0 (gT rfl rfl rfl (beq_iff_eq.mpr c22)) (ixR (l := a0.Rules) (lit := TRule.lit) sl26 rfl rfl (fun _ => rfl) (g28_12 c22).1 (g28_12 c22).2) <| .op 0 (gT rfl rfl rfl (beq_iff_eq.mpr c22)) (faC fa51_1 rfl) <| .op 0 (gT rfl rfl rfl (beq_iff_eq.mpr c22)) (ldC rfl sz3 ag3 rfl) <| .op 0 (gT rfl rfl rfl (beq_iff_eq.mpr c22)) (mvV rfl) <| .op 0 (gT rfl rfl rfl (beq_iff_eq.mpr c22)) (eqI rfl rfl) <| .op 0 rfl (pkTV rfl (beq_iff_eq.mpr c22) rfl) <| .nilL _ ⟨.free rfl rfl, .free rfl rfl, .ptr rfl, .own rfl, .free rfl rfl, cB rfl (mAndT (beq_iff_eq.mpr c22) rfl), trivial⟩)
            · exact (.op 0 rfl (faP fa28_3 rfl) <| .op 0 rfl (ldP rfl sz26 ag26 rfl) <| .op 0 rfl (mvV rfl) <| .op 0 rfl (ixR (l := a0.Rules) (lit := TRule.lit) sl26 rfl rfl (fun _ => rfl) g28_3.1 g28_3.2) <| .op 0 rfl (faC fa51_0 rfl) <| .op 0 rfl (ldC rfl sz3 ag3 rfl) <| .op 0 rfl (mvV rfl) <| .op 0 rfl (eqI rfl rfl) <| .op 0 rfl (mvV rfl) <| .no (gF rfl rfl rfl (beq_eq_false_iff_ne.mpr c22)) <| .no (gF rfl rfl rfl (beq_eq_false_iff_ne.mpr c22)) <| .no (gF rfl rfl rfl (beq_eq_false_iff_ne.mpr c22)) <| .no (gF rfl rfl rfl (beq_eq_false_iff_ne.mpr c22)) <| .no (gF rfl rfl rfl (beq_eq_false_iff_ne.mpr c22)) <| .no (gF rfl rfl rfl (beq_eq_false_iff_ne.mpr c22)) <| .no (gF rfl rfl rfl (beq_eq_false_iff_ne.mpr c22)) <| .no (gF rfl rfl rfl (beq_eq_false_iff_ne.mpr c22)) <| .op 0 rfl (pkFV rfl (beq_eq_false_iff_ne.mpr c22) rfl) <| .nilL _ ⟨.free rfl rfl, .free rfl rfl, .ptr rfl, .own rfl, .free rfl rfl, cB rfl (mAndF (beq_eq_false_iff_ne.mpr c22)), trivial⟩)
          refine .consJ (fun s_ => r11_Top.j1 x5 s_ z1) (fun x10 => listEnv [(1, .val (.int .i64 a1)), (2, .val (.int .i64 a2)), (3, .ptr 0 1 6 0 0), (9, .own 1 x10.length), (10, .val (.int .i64 x5))]) (fun x10 => [⟨6, [(TPds.lit a0)], 0, none⟩, ⟨1, x10.map (cInt .i64), 0, none⟩]) ?_ fun hJ1 => ?_
          · rintro x10 h
            unfold r11_Top.j1 at h
            try dsimp only at h
            refine .inBlock ?_
            refine .reg0 rfl (.op 0 rfl (mvV rfl) <| .op 0 rfl (addI rfl rfl) <| .op 0 rfl (asV rfl) <| .nil0) ?_
            refine .keepL [0, 1] [(1, .val (.int .i64 a1)), (2, .val (.int .i64 a2)), (3, .ptr 0 1 6 0 0), (9, .own 1 x10.length), (10, .val (.int .i64 (IntKind.i64.wrap (x5 + 1))))] [⟨6, [(TPds.lit a0)], 0, none⟩, ⟨1, x10.map (cInt .i64), 0, none⟩] (by decide) (by decide) ⟨.free rfl rfl, .free rfl rfl, .ptr rfl, .own rfl, .free rfl rfl, trivial⟩ ⟨⟨_, rfl, bcBox (all2_free rfl)⟩, ⟨_, rfl, bcRow (l := x10) sl30 (Nat.le_refl _) rfl⟩, trivial⟩ ?_
            exact hn1 _ h
          · by_cases c24 : (((rdl a0.Rules x5).P == a1) && ((rdl a0.Rules x5).G == a2)) = true
            · rw [if_pos c24] at h
              refine .condT rfl c24 ?_
              obtain ⟨g31_3, h⟩ := h
              refine .room 0 ?_
              refine .room 0 ?_
              refine .reg0 rfl (.op 0 rfl (mvO rfl) <| .op 0 rfl (mvV rfl) <| .op 2 rfl (bldL (s := 1) (cs := [.val (.int .i64 x5)]) un30 sz3 ze3 ⟨by decide, rfl, by decide⟩ rfl rfl rfl rfl) <| .op 0 rfl (ap1 (l := x4) x5 sl30 rfl rfl rfl (Nat.zero_le _) (elems_own (l := [x5]) rfl rfl) g31_3) <| .op 0 rfl (asO rfl) <| .nil0) ?_
              refine .keepL [0, 1] [(1, .val (.int .i64 a1)), (2, .val (.int .i64 a2)), (3, .ptr 0 1 6 0 0), (9, .own 1 ((x4 ++ [x5]).length)), (10, .val (.int .i64 x5))] [⟨6, [(TPds.lit a0)], 0, none⟩, ⟨1, (x4 ++ [x5]).map (cInt .i64), 0, none⟩] (by decide) (by decide) ⟨.free rfl rfl, .free rfl rfl, .ptr rfl, .own rfl, .free rfl rfl, trivial⟩ ⟨⟨_, rfl, bcBox (all2_free rfl)⟩, ⟨_, rfl, bcRow (l := (x4 ++ [x5])) sl30 (Nat.le_refl _) rfl⟩, trivial⟩ ?_
              exact hJ1 _ h
            · rw [if_neg c24] at h
              refine .condF rfl (Bool.eq_false_iff.mpr c24) ?_
              refine .skip ?_
              refine .keepL [0, 1] [(1, .val (.int .i64 a1)), (2, .val (.int .i64 a2)), (3, .ptr 0 1 6 0 0), (9, .own 1 x4.length), (10, .val (.int .i64 x5))] [⟨6, [(TPds.lit a0)], 0, none⟩, ⟨1, x4.map (cInt .i64), 0, none⟩] (by decide) (by decide) ⟨.free rfl rfl, .free rfl rfl, .ptr rfl, .own rfl, .free rfl rfl, trivial⟩ ⟨⟨_, rfl, bcBox (all2_free rfl)⟩, ⟨_, rfl, bcRow (l := x4) sl30 (Nat.le_refl _) rfl⟩, trivial⟩ ?_
              exact hJ1 _ h
        · rw [if_neg c18] at h
          refine .condF rfl (decide_eq_false c18) ?_
          refine .exit rfl ?_
          refine .keepL [1] [(9, .own 0 x4.length)] [⟨1, x4.map (cInt .i64), 0, none⟩] (by decide) (by decide) ⟨.own rfl, trivial⟩ ⟨⟨_, rfl, bcRow (l := x4) sl30 (Nat.le_refl _) rfl⟩, trivial⟩ ?_
          exact hx1 _ h
  · rw [if_neg c1] at h
    refine .condT rfl (bne_iff_ne.mpr c1) ?_
    refine .seq ?_
    refine .reg0 rfl (.op 0 rfl (mvV rfl) <| .op 0 rfl (asV rfl) <| .op 0 rfl (asV rfl) <| .nil0) ?_
    replace h := h.symm
    subst h
    refine .keepL [] [(6, .rows (([] : List Int).map (cInt .i64))), (7, .val (.int .i64 t2_1))] [] (by decide) (by decide) ⟨.nil, .free rfl rfl, trivial⟩ trivial ?_
    exact .ret rfl
def l11_PdsTops.b1 (t3_3 : (List Int) × Int) (t4_3 : (List Int) × Int) : Int → Rnd Int Unit Bool → Prop := fun x1 z1 => if x1 < (t3_3.1.length : Int) then (((InR x1 t3_3.1.length)) ∧ ((InR x1 t4_3.1.length)) ∧ if (rdl t3_3.1 x1) = (rdl t4_3.1 x1) then (z1 = .next (IntKind.i64.wrap (x1 + 1))) else (z1 = .ret false)) else (z1 = .exit ())
def l11_PdsTops.f (a0 : TPds) (a1 : Int) (a2 : Int) (r : Bool) : Prop :=
  ∃ t2_1 : TPds, (l11_cut.f a0 t2_1) ∧ ∃ t3_3 : (List Int) × Int, (pds_Top.f t2_1 a1 a2 t3_3) ∧ ∃ t4_3 : (List Int) × Int, (r11_Top.f t2_1 a1 a2 t4_3) ∧ if ((!((t3_3.1.length : Int) == (t4_3.1.length : Int))) || (t3_3.2 != t4_3.2)) = true then (r = false) else (∃ o1 : Fin Unit Bool, Loop (l11_PdsTops.b1 t3_3 t4_3) 0 o1 ∧ o1.on (fun _ => ∃ t20_0 : Bool, (l11_alive.f t20_0) ∧ r = t20_0) (fun r_ => r = r_))
theorem l11_PdsTops.D {a0 : TPds} {a1 : Int} {a2 : Int} {r : Bool} (h : l11_PdsTops.f a0 a1 a2 r) : D Try.prog X (.callH 5 [.agg (TPds.lit a0), .val (.int .i64 a1), .val (.int .i64 a2)] [] (.val (.bool r)) []) := by
  unfold l11_PdsTops.f at h
  refine .enter 54 0 fn5 rfl rfl rfl ?_
  refine .seq ?_
  refine .room 0 ?_
  refine .reg0 rfl (.op 0 rfl (bxP (s := 6) (cs := (TPds.lit a0)) rfl ⟨rfl, by decide, rfl⟩ rfl) <| .op 0 rfl (asV rfl) <| .nil0) ?_
  refine .seq ?_
  obtain ⟨t2_1, g2_1, h⟩ := h
  refine .reg0 rfl (.op 0 rfl (ldG rfl sz28 ag28 rfl) <| .callI rfl (callee_of rfl go6 rfl) (.pure rfl rfl (l11_cut.D g2_1)) <| .op 0 rfl (stB (cs0 := (TPds.lit a0)) (cs := (TPds.lit t2_1)) (cs1 := (TPds.lit t2_1)) rfl rfl sz28 rfl ⟨Nat.le_of_ble_eq_true rfl, rfl⟩ rfl) <| .nil0) ?_
  refine .seq ?_
  obtain ⟨t3_3, g3_3, h⟩ := h
  refine .reg0 rfl (.op 0 rfl (ldG rfl sz28 ag28 rfl) <| .op 0 rfl (mvV rfl) <| .op 0 rfl (mvV rfl) <| .callI rfl (callee_of rfl go16 rfl) (.pure rfl rfl (pds_Top.D g3_3)) <| .op 0 rfl (mvT rfl) <| .op 0 rfl (exT rfl rfl) <| .op 0 rfl (exT rfl rfl) <| .op 0 rfl (asR rfl) <| .op 0 rfl (asV rfl) <| .nil0) ?_
  refine .seq ?_
  obtain ⟨t4_3, g4_3, h⟩ := h
  refine .reg0 rfl (.op 0 rfl (ldG rfl sz28 ag28 rfl) <| .op 0 rfl (mvV rfl) <| .op 0 rfl (mvV rfl) <| .callI rfl (callee_of rfl go17 rfl) (.pure rfl rfl (r11_Top.D g4_3)) <| .op 0 rfl (mvT rfl) <| .op 0 rfl (exT rfl rfl) <| .op 0 rfl (exT rfl rfl) <| .op 0 rfl (asR rfl) <| .op 0 rfl (asV rfl) <| .nil0) ?_
  refine .seq ?_
  refine .seq ?_
  refine .reg0 (e1 := listEnv [(7, .rows (t3_3.1.map (cInt .i64))), (9, .rows (t4_3.1.map (cInt .i64))), (37, .val (.bool ((!((t3_3.1.length : Int) == (t4_3.1.length : Int))) || (t3_3.2 != t4_3.2))))]) (H1 := [⟨6, [(TPds.lit t2_1)], 0, none⟩]) rfl ?_ ?_
  · by_cases c1 : (t3_3.1.length : Int) = (t4_3.1.length : Int)
    · exact (.op 0 rfl (mvR rfl) <| .op 0 rfl (lnR (l := t3_3.1) sl30 rfl) <| .op 0 rfl (mvR rfl) <| .op 0 rfl (lnR (l := t4_3.1) sl30 rfl) <| .op 0 rfl (neI rfl rfl) <| .op 0 rfl (mvV rfl) <| .op 0 (gT rfl rfl rfl (bne_eq_false_iff_eq.mpr c1)) (mvV rfl) <| .op 0 (gT rfl rfl rfl (bne_eq_false_iff_eq.mpr c1)) (mvV rfl) <| .op 0 (gT rfl rfl rfl (bne_eq_false_iff_eq.mpr c1)) (neI rfl rfl) <| .op 0 rfl (pkFV rfl (bne_eq_false_iff_eq.mpr c1) rfl) <| .nilL _ ⟨.free rfl rfl, .free rfl rfl, cB rfl (mOrF (bnotF (beq_iff_eq.mpr c1)) rfl), trivial⟩)
    · exact (.op 0 rfl (mvR rfl) <| .op 0 rfl (lnR (l := t3_3.1) sl30 rfl) <| .op 0 rfl (mvR rfl) <| .op 0 rfl (lnR (l := t4_3.1) sl30 rfl) <| .op 0 rfl (neI rfl rfl) <| .op 0 rfl (mvV rfl) <| .no (gF rfl rfl rfl (bne_iff_ne.mpr c1)) <| .no (gF rfl rfl rfl (bne_iff_ne.mpr c1)) <| .no (gF rfl rfl rfl (bne_iff_ne.mpr c1)) <| .op 0 rfl (pkTV rfl (bne_iff_ne.mpr c1) rfl) <| .nilL _ ⟨.free rfl rfl, .free rfl rfl, cB rfl (mOrT (bnotT (beq_eq_false_iff_ne.mpr c1))), trivial⟩)
  by_cases c2 : ((!((t3_3.1.length : Int) == (t4_3.1.length : Int))) || (t3_3.2 != t4_3.2)) = true
  · rw [if_pos c2] at h
    refine .condT rfl c2 ?_
    refine .seq ?_
    refine .reg0 rfl (.op 0 rfl (asV rfl) <| .nil0) ?_
    replace h := h.symm
    subst h
    refine .keepL [] [(6, .val (.bool false))] [] (by decide) (by decide) ⟨.free rfl rfl, trivial⟩ trivial ?_
    exact .ret rfl
  · rw [if_neg c2] at h
    refine .condF rfl (Bool.eq_false_iff.mpr c2) ?_
    refine .skip ?_
    refine .seq ?_
    refine .seq ?_
    refine .reg0 rfl (.op 0 rfl (asV rfl) <| .nil0) ?_
    refine .block ?_
    refine .keepL [] [(7, .rows (t3_3.1.map (cInt .i64))), (9, .rows (t4_3.1.map (cInt .i64))), (11, .val (.int .i64 0))] [] (by decide) (by decide) ⟨.free rfl rfl, .free rfl rfl, .free rfl rfl, trivial⟩ trivial ?_
    obtain ⟨o1, hL1, h⟩ := h
    refine .loopB (l11_PdsTops.b1 t3_3 t4_3) (fun x1 => listEnv [(7, .rows (t3_3.1.map (cInt .i64))), (9, .rows (t4_3.1.map (cInt .i64))), (11, .val (.int .i64 x1))]) (fun x1 => []) (fun _ => listEnv []) (fun _ => []) hL1 (fun r_ => r = r_) ?_ ?_ ?_
    · rintro ⟨⟩ rfl
      try dsimp only [Fin.on] at h
      refine .seq ?_
      obtain ⟨t20_0, g20_0, h⟩ := h
      refine .reg0 rfl (.callI rfl (callee_of rfl go10 rfl) (.pure rfl rfl (l11_alive.D g20_0)) <| .op 0 rfl (asV rfl) <| .nil0) ?_
      replace h := h.symm
      subst h
      refine .keepL [] [(6, .val (.bool t20_0))] [] (by decide) (by decide) ⟨.free rfl rfl, trivial⟩ trivial ?_
      exact .ret rfl
    · rintro r_ rfl
      exact h
    · rintro x1 z1 h hn1 hx1 hr1
      dsimp only [l11_PdsTops.b1] at h
      refine .seq ?_
      refine .seq ?_
      refine .reg0 rfl (.op 0 rfl (mvV rfl) <| .op 0 rfl (mvR rfl) <| .op 0 rfl (lnR (l := t3_3.1) sl30 rfl) <| .op 0 rfl (ltI rfl rfl) <| .nil0) ?_
      by_cases c7 : x1 < (t3_3.1.length : Int)
      · rw [if_pos c7] at h
        refine .condT rfl (decide_eq_true c7) ?_
        refine .skip ?_
        refine .seq ?_
        refine .block ?_
        refine .seq ?_
        obtain ⟨g17_2, h⟩ := h
        obtain ⟨g17_6, h⟩ := h
        refine .reg1 (e1 := listEnv [(7, .rows (t3_3.1.map (cInt .i64))), (9, .rows (t4_3.1.map (cInt .i64))), (11, .val (.int .i64 x1)), (52, .val (.bool ((rdl t3_3.1 x1) != (rdl t4_3.1 x1))))]) (H1 := []) rfl ?_ ?_
        · exact .drawM [(8, 52, .val (.bool ((rdl t3_3.1 x1) != (rdl t4_3.1 x1)))), (7, 51, .val (.int .i64 (rdl t4_3.1 x1))), (6, 50, .cptr ((cInt .i64) (rdl t4_3.1 x1)) 0), (5, 49, .val (.int .i64 x1)), (4, 48, .rows (t4_3.1.map (cInt .i64))), (3, 47, .val (.int .i64 (rdl t3_3.1 x1))), (2, 46, .cptr ((cInt .i64) (rdl t3_3.1 x1)) 0), (1, 45, .val (.int .i64 x1)), (0, 44, .rows (t3_3.1.map (cInt .i64)))] [] [[], [], [0, 1], [2, 0, 1], [], [], [4, 5], [6, 4, 5], [3, 2, 0, 1, 7, 6, 4, 5]] (by rfl) (by rfl) (by rfl) (by exact ⟨fun S hS hD hn => .one 0 hS hD hn rfl rfl (mvR rfl) rfl rfl rfl, fun S hS hD hn => .one 0 hS hD hn rfl rfl (mvV rfl) rfl rfl rfl, fun S hS hD hn => .one 0 hS hD hn rfl rfl (ixR (l := t3_3.1) (lit := (cInt .i64)) sl30 rfl rfl (fun _ => rfl) g17_2.1 g17_2.2) rfl rfl rfl, fun S hS hD hn => .one 0 hS hD hn rfl rfl (ldC rfl sz3 ag3 rfl) rfl rfl rfl, fun S hS hD hn => .one 0 hS hD hn rfl rfl (mvR rfl) rfl rfl rfl, fun S hS hD hn => .one 0 hS hD hn rfl rfl (mvV rfl) rfl rfl rfl, fun S hS hD hn => .one 0 hS hD hn rfl rfl (ixR (l := t4_3.1) (lit := (cInt .i64)) sl30 rfl rfl (fun _ => rfl) g17_6.1 g17_6.2) rfl rfl rfl, fun S hS hD hn => .one 0 hS hD hn rfl rfl (ldC rfl sz3 ag3 rfl) rfl rfl rfl, fun S hS hD hn => .one 0 hS hD hn rfl rfl (neI rfl rfl) rfl rfl rfl, trivial⟩) _ (by exact ⟨.free rfl rfl, .free rfl rfl, .free rfl rfl, .free rfl rfl, trivial⟩) (by rfl)
        by_cases c8 : (rdl t3_3.1 x1) = (rdl t4_3.1 x1)
        · rw [if_pos c8] at h
          refine .condF rfl (bne_eq_false_iff_eq.mpr c8) ?_
          refine .skip ?_
          refine .inBlock ?_
          refine .reg0 rfl (.op 0 rfl (mvV rfl) <| .op 0 rfl (addI rfl rfl) <| .op 0 rfl (asV rfl) <| .nil0) ?_
          refine .keepL [] [(7, .rows (t3_3.1.map (cInt .i64))), (9, .rows (t4_3.1.map (cInt .i64))), (11, .val (.int .i64 (IntKind.i64.wrap (x1 + 1))))] [] (by decide) (by decide) ⟨.free rfl rfl, .free rfl rfl, .free rfl rfl, trivial⟩ trivial ?_
          exact hn1 _ h
        · rw [if_neg c8] at h
          refine .condT rfl (bne_iff_ne.mpr c8) ?_
          refine .seq ?_
          refine .reg0 rfl (.op 0 rfl (asV rfl) <| .nil0) ?_
          have q3 := hr1 _ h
          replace q3 := q3.symm
          subst q3
          refine .keepL [] [(6, .val (.bool false))] [] (by decide) (by decide) ⟨.free rfl rfl, trivial⟩ trivial ?_
          exact .ret rfl
      · rw [if_neg c7] at h
        refine .condF rfl (decide_eq_false c7) ?_
        refine .exit rfl ?_
        refine .keepL [] [] [] (by decide) (by decide) trivial trivial ?_
        exact hx1 _ h
end Go.RM.Try
