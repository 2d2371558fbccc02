/- GH, for the statement PdsShorts: what it needs, no more. -/
import Derived.Test.YtiiagjedhhmnbaaZPdsShortsGG
set_option linter.unusedVariables false
set_option maxRecDepth 8000
set_option maxHeartbeats 4000000
namespace Go.RM.Try
open Go.RM Go.Proofs
variable {X : FuncId → List PV → Heap → PV → Heap → Prop}
def r11_Short.j1 (x4 : Int) : Int → (Rnd ((Int × Int)) Int (TShorted × Int)) → Prop := fun x9 z1 => z1 = .next (x9, (IntKind.i64.wrap (x4 + 1)))
def r11_Short.b1 (a0 : TPds) : (Int × Int) → Rnd ((Int × Int)) Int (TShorted × Int) → Prop := fun (x3, x4) z1 => if x4 < (a0.Rules.length : Int) then (((InR x4 a0.Rules.length)) ∧ if ((rdl a0.Rules x4).W.length : Int) > 2 then (((InR x4 a0.Rules.length)) ∧ r11_Short.j1 x4 (IntKind.i64.wrap ((IntKind.i64.wrap (x3 + ((rdl a0.Rules x4).W.length : Int))) - 2)) z1) else (r11_Short.j1 x4 x3 z1)) else (z1 = .exit x3)
def r11_Short.b3 (t4_2 : TWeight × Int) (x51 : Int) : (Int × Int × (List TRule) × (List Int) × (List Bool) × Int × Int × (List Int) × Bool × Int × Int × (List Int) × (List TCell) × (List TWeight) × Bool) → Rnd ((Int × Int × (List TRule) × (List Int) × (List Bool) × Int × Int × (List Int) × Bool × Int × Int × (List Int) × (List TCell) × (List TWeight) × Bool)) ((Int × Int × (List TRule) × (List Int) × (List Bool) × Int × Int × (List Int) × Bool × Int × Int × (List Int) × (List TCell) × (List TWeight) × Bool)) (TShorted × Int) → Prop := fun (x87, x88, x89, x90, x91, x92, x93, x94, x95, x96, x97, x98, x99, x100, x101) z3 => if (x94.length : Int) > 2 then (((InR (IntKind.i64.wrap ((x94.length : Int) - 1)) x94.length)) ∧ ((Fits (((x89.length : Nat) : Int) + 1) 144)) ∧ ((Fits (x90.length + 1) 8)) ∧ ((Fits (x91.length + 1) 1)) ∧ ((Cut 0 (IntKind.i64.wrap ((x94.length : Int) - 1)) x94.length)) ∧ z3 = .next ((IntKind.i64.wrap (x87 + 1)), (IntKind.i64.wrap (x88 + 1)), x89 ++ [(TRule.mk x92 x93 x87 [x88, (rdl x94 (IntKind.i64.wrap ((x94.length : Int) - 1)))] (TWeight.mk x95 x96 (TFacts.mk x97 x98) x99 x100))], (x90 ++ [x51]), (x91 ++ [x101]), x87, x88, (cutl x94 0 (IntKind.i64.wrap ((x94.length : Int) - 1))), t4_2.1.Zero, t4_2.1.Cost, t4_2.1.Facts.Gen, t4_2.1.Facts.Rows, t4_2.1.Cells, t4_2.1.Parts, false)) else (z3 = .exit (x87, x88, x89, x90, x91, x92, x93, x94, x95, x96, x97, x98, x99, x100, x101))
def r11_Short.b2 (a0 : TPds) (t4_2 : TWeight × Int) : (Int × Int × (List TRule) × (List Int) × (List Bool) × Int) → Rnd ((Int × Int × (List TRule) × (List Int) × (List Bool) × Int)) ((Int × Int × (List TRule) × (List Int) × (List Bool))) (TShorted × Int) → Prop := fun (x46, x47, x48, x49, x50, x51) z2 => if x51 < (a0.Rules.length : Int) then (((InR x51 a0.Rules.length)) ∧ ∃ o3 : Fin ((Int × Int × (List TRule) × (List Int) × (List Bool) × Int × Int × (List Int) × Bool × Int × Int × (List Int) × (List TCell) × (List TWeight) × Bool)) (TShorted × Int), Loop (r11_Short.b3 t4_2 x51) (x46, x47, x48, x49, x50, (rdl a0.Rules x51).P, (rdl a0.Rules x51).G, (rdl a0.Rules x51).W, (rdl a0.Rules x51).F.Zero, (rdl a0.Rules x51).F.Cost, (rdl a0.Rules x51).F.Facts.Gen, (rdl a0.Rules x51).F.Facts.Rows, (rdl a0.Rules x51).F.Cells, (rdl a0.Rules x51).F.Parts, true) o3 ∧ o3.on (fun (x102, x103, x104, x105, x106, x107, x108, x109, x110, x111, x112, x113, x114, x115, x116) => ((Fits (x104.length + 1) 144)) ∧ ((Fits (x105.length + 1) 8)) ∧ ((Fits (x106.length + 1) 1)) ∧ z2 = .next (x102, x103, (x104 ++ [(TRule.mk x107 x108 ((rdl a0.Rules x51).Q) x109 (TWeight.mk x110 x111 (TFacts.mk x112 x113) x114 x115))]), (x105 ++ [x51]), (x106 ++ [x116]), (IntKind.i64.wrap (x51 + 1)))) (fun r_ => z2 = .ret r_)) else (z2 = .exit (x46, x47, x48, x49, x50))
def r11_Short.f (a0 : TPds) (r : TShorted × Int) : Prop :=
  ∃ t2_1 : Int, (r11_Check.f a0 t2_1) ∧ if t2_1 = 0 then (∃ t4_2 : TWeight × Int, (r05_One.f a0.Space t4_2) ∧ ∃ o1 : Fin Int (TShorted × Int), Loop (r11_Short.b1 a0) (0, 0) o1 ∧ o1.on (fun x7 => if ((decide ((IntKind.i64.wrap (a0.States + x7)) > 4096)) || ((decide ((IntKind.i64.wrap (a0.Symbols + x7)) > 4096)) || (decide ((IntKind.i64.wrap ((a0.Rules.length : Int) + x7)) > 16384)))) = true then (r = ((TShorted.mk (TPds.mk (TSpace.mk 0 0 []) 0 0 []) [] []), 3)) else (∃ o2 : Fin ((Int × Int × (List TRule) × (List Int) × (List Bool))) (TShorted × Int), Loop (r11_Short.b2 a0 t4_2) (a0.States, a0.Symbols, [], [], [], 0) o2 ∧ o2.on (fun (x82, x83, x84, x85, x86) => r = ((TShorted.mk (TPds.mk a0.Space x82 x83 x84) x85 x86), 0)) (fun r_ => r = r_))) (fun r_ => r = r_)) else (r = ((TShorted.mk (TPds.mk (TSpace.mk 0 0 []) 0 0 []) [] []), t2_1))
theorem r11_Short.D {a0 : TPds} {r : TShorted × Int} (h : r11_Short.f a0 r) : D Try.prog X (.callH 8 [.agg (TPds.lit a0)] [] (.tuple [.agg (TShorted.lit r.1), .val (.int .i64 r.2)]) []) := by
  unfold r11_Short.f at h
  refine .enter 186 0 fn8 rfl rfl rfl ?_
  refine .seq ?_
  refine .room 0 ?_
  refine .room 0 ?_
  refine .reg0 rfl (.op 0 rfl (bxP (s := 6) (cs := (TPds.lit a0)) rfl ⟨rfl, by decide, rfl⟩ rfl) <| .op 1 rfl (alP (s := 8) ze33 ⟨rfl, by decide, rfl⟩ rfl) <| .op 0 rfl (asV rfl) <| .nil0) ?_
  refine .seq ?_
  obtain ⟨t2_1, g2_1, h⟩ := h
  refine .reg0 rfl (.op 0 rfl (ldG rfl sz28 ag28 rfl) <| .callI rfl (callee_of rfl go23 rfl) (.pure rfl rfl (r11_Check.D g2_1)) <| .op 0 rfl (asV rfl) <| .nil0) ?_
  refine .seq ?_
  refine .seq ?_
  refine .reg0 rfl (.op 0 rfl (mvV rfl) <| .op 0 rfl (neI rfl rfl) <| .nil0) ?_
  by_cases c1 : t2_1 = 0
  · rw [if_pos c1] at h
    refine .condF rfl (bne_eq_false_iff_eq.mpr c1) ?_
    refine .skip ?_
    refine .seq ?_
    obtain ⟨t4_2, g4_2, h⟩ := h
    refine .room 0 ?_
    refine .reg0 rfl (.op 0 rfl (faP fa28_0 rfl) <| .op 0 rfl (ldG rfl sz25 ag25 rfl) <| .callI rfl (callee_of rfl go12 rfl) (.pure rfl rfl (r05_One.D g4_2)) <| .op 0 rfl (mvT rfl) <| .op 0 rfl (exT rfl rfl) <| .op 0 rfl (exT rfl rfl) <| .op 2 rfl (alP (s := 6) ze49 ⟨rfl, by decide, rfl⟩ rfl) <| .op 0 rfl (stB (cs0 := [.val (.bool false), .val (.int .i64 0), .val (.int .u64 0), .val (.slice none 0 0), .val (.slice none 0 0), .val (.slice none 0 0)]) (cs := (TWeight.lit t4_2.1)) (cs1 := (TWeight.lit t4_2.1)) rfl rfl sz49 rfl ⟨Nat.le_of_ble_eq_true rfl, rfl⟩ rfl) <| .op 0 rfl (asV rfl) <| .nil0) ?_
    refine .seq ?_
    refine .reg0 rfl (.op 0 rfl (asV rfl) <| .nil0) ?_
    refine .seq ?_
    refine .seq ?_
    refine .reg0 rfl (.op 0 rfl (asV rfl) <| .nil0) ?_
    refine .block ?_
    refine .keepL [0, 1, 2] [(1, .ptr 0 1 6 0 0), (2, .ptr 1 1 8 0 0), (5, .ptr 2 1 6 0 0), (7, .val (.int .i64 0)), (8, .val (.int .i64 0))] [⟨6, [(TPds.lit a0)], 0, none⟩, ⟨8, [[.val (.int .i64 0), .val (.int .i64 0), .val (.slice none 0 0), .val (.int .i64 0), .val (.int .i64 0), .val (.slice none 0 0), .val (.slice none 0 0), .val (.slice none 0 0)]], 0, none⟩, ⟨6, [(TWeight.lit t4_2.1)], 0, none⟩] (by decide) (by decide) ⟨.ptr rfl, .ptr rfl, .ptr rfl, .free rfl rfl, .free rfl rfl, trivial⟩ ⟨⟨_, rfl, bcBox (all2_free rfl)⟩, ⟨_, rfl, bcBox (all2_free rfl)⟩, ⟨_, rfl, bcBox (all2_free rfl)⟩, trivial⟩ ?_
    obtain ⟨o1, hL1, h⟩ := h
    refine .loopB (r11_Short.b1 a0) (fun (x3, x4) => listEnv [(1, .ptr 0 1 6 0 0), (2, .ptr 1 1 8 0 0), (5, .ptr 2 1 6 0 0), (7, .val (.int .i64 x3)), (8, .val (.int .i64 x4))]) (fun (x3, x4) => [⟨6, [(TPds.lit a0)], 0, none⟩, ⟨8, [[.val (.int .i64 0), .val (.int .i64 0), .val (.slice none 0 0), .val (.int .i64 0), .val (.int .i64 0), .val (.slice none 0 0), .val (.slice none 0 0), .val (.slice none 0 0)]], 0, none⟩, ⟨6, [(TWeight.lit t4_2.1)], 0, none⟩]) (fun x7 => listEnv [(1, .ptr 0 1 6 0 0), (2, .ptr 1 1 8 0 0), (5, .ptr 2 1 6 0 0), (7, .val (.int .i64 x7))]) (fun x7 => [⟨6, [(TPds.lit a0)], 0, none⟩, ⟨8, [[.val (.int .i64 0), .val (.int .i64 0), .val (.slice none 0 0), .val (.int .i64 0), .val (.int .i64 0), .val (.slice none 0 0), .val (.slice none 0 0), .val (.slice none 0 0)]], 0, none⟩, ⟨6, [(TWeight.lit t4_2.1)], 0, none⟩]) hL1 (fun r_ => r = r_) ?_ ?_ ?_
    · rintro x7 rfl
      try dsimp only [Fin.on] at h
      refine .seq ?_
      refine .seq ?_
      refine .reg0 (e1 := listEnv [(1, .ptr 0 1 6 0 0), (2, .ptr 1 1 8 0 0), (5, .ptr 2 1 6 0 0), (71, .val (.bool ((decide ((IntKind.i64.wrap (a0.States + x7)) > 4096)) || ((decide ((IntKind.i64.wrap (a0.Symbols + x7)) > 4096)) || (decide ((IntKind.i64.wrap ((a0.Rules.length : Int) + x7)) > 16384))))))]) (H1 := [⟨6, [(TPds.lit a0)], 0, none⟩, ⟨8, [[.val (.int .i64 0), .val (.int .i64 0), .val (.slice none 0 0), .val (.int .i64 0), .val (.int .i64 0), .val (.slice none 0 0), .val (.slice none 0 0), .val (.slice none 0 0)]], 0, none⟩, ⟨6, [(TWeight.lit t4_2.1)], 0, none⟩]) rfl ?_ ?_
      · by_cases c17 : (IntKind.i64.wrap (a0.States + x7)) > 4096
        · exact (.op 0 rfl (faP fa28_1 rfl) <| .op 0 rfl (ldP rfl sz3 ag3 rfl) <| .op 0 rfl (mvV rfl) <| .op 0 rfl (addI rfl rfl) <| .op 0 rfl (gtI rfl rfl) <| .op 0 rfl (mvV rfl) <| .no (gF rfl rfl rfl (decide_eq_true c17)) <| .no (gF rfl rfl rfl (decide_eq_true c17)) <| .no (gF rfl rfl rfl (decide_eq_true c17)) <| .no (gF rfl rfl rfl (decide_eq_true c17)) <| .no (gF rfl rfl rfl (decide_eq_true c17)) <| .op 0 rfl (pkTV rfl (decide_eq_true c17) rfl) <| .op 0 rfl (mvV rfl) <| .no (gF rfl rfl rfl rfl) <| .no (gF rfl rfl rfl rfl) <| .no (gF rfl rfl rfl rfl) <| .no (gF rfl rfl rfl rfl) <| .no (gF rfl rfl rfl rfl) <| .no (gF rfl rfl rfl rfl) <| .op 0 rfl (pkTV rfl rfl rfl) <| .nilL _ ⟨.ptr rfl, .ptr rfl, .ptr rfl, cB rfl (mOrT (decide_eq_true c17)), trivial⟩)
        · by_cases c18 : (IntKind.i64.wrap (a0.Symbols + x7)) > 4096
          · exact (.op 0 rfl (faP fa28_1 rfl) <| .op 0 rfl (ldP rfl sz3 ag3 rfl) <| .op 0 rfl (mvV rfl) <| .op 0 rfl (addI rfl rfl) <| .op 0 rfl (gtI rfl rfl) <| .op 0 rfl (mvV rfl) <| .op 0 (gT rfl rfl rfl (decide_eq_false c17)) (faP fa28_2 rfl) <| .op 0 (gT rfl rfl rfl (decide_eq_false c17)) (ldP rfl sz3 ag3 rfl) <| .op 0 (gT rfl rfl rfl (decide_eq_false c17)) (mvV rfl) <| .op 0 (gT rfl rfl rfl (decide_eq_false c17)) (addI rfl rfl) <| .op 0 (gT rfl rfl rfl (decide_eq_false c17)) (gtI rfl rfl) <| .op 0 rfl (pkFV rfl (decide_eq_false c17) rfl) <| .op 0 rfl (mvV rfl) <| .no (gF rfl rfl rfl (decide_eq_true c18)) <| .no (gF rfl rfl rfl (decide_eq_true c18)) <| .no (gF rfl rfl rfl (decide_eq_true c18)) <| .no (gF rfl rfl rfl (decide_eq_true c18)) <| .no (gF rfl rfl rfl (decide_eq_true c18)) <| .no (gF rfl rfl rfl (decide_eq_true c18)) <| .op 0 rfl (pkTV rfl (decide_eq_true c18) rfl) <| .nilL _ ⟨.ptr rfl, .ptr rfl, .ptr rfl, cB rfl (mOrF (decide_eq_false c17) (mOrT (decide_eq_true c18))), trivial⟩)
          · exact (.op 0 rfl (faP fa28_1 rfl) <| .op 0 rfl (ldP rfl sz3 ag3 rfl) <| .op 0 rfl (mvV rfl) <| .op 0 rfl (addI rfl rfl) <| .op 0 rfl (gtI rfl rfl) <| .op 0 rfl (mvV rfl) <| .op 0 (gT rfl rfl rfl (decide_eq_false c17)) (faP fa28_2 rfl) <| .op 0 (gT rfl rfl rfl (decide_eq_false c17)) (ldP rfl sz3 ag3 rfl) <| .op 0 (gT rfl rfl rfl (decide_eq_false c17)) (mvV rfl) <| .op 0 (gT rfl rfl rfl (decide_eq_false c17)) (addI rfl rfl) <| .op 0 (gT rfl rfl rfl (decide_eq_false c17)) (gtI rfl rfl) <| .op 0 rfl (pkFV rfl (decide_eq_false c17) rfl) <| .op 0 rfl (mvV rfl) <| .op 0 (gT rfl rfl rfl (decide_eq_false c18)) (faP fa28_3 rfl) <| .op 0 (gT rfl rfl rfl (decide_eq_false c18)) (ldP rfl sz26 ag26 rfl) <| .op 0 (gT rfl rfl rfl (decide_eq_false c18)) (lnR (l := a0.Rules) sl26 rfl) <| .op 0 (gT rfl rfl rfl (decide_eq_false c18)) (mvV rfl) <| .op 0 (gT rfl rfl rfl (decide_eq_false c18)) (addI rfl rfl) <| .op 0 (gT rfl rfl rfl (decide_eq_false c18)) (gtI rfl rfl) <| .op 0 rfl (pkFV rfl (decide_eq_false c18) rfl) <| .nilL _ ⟨.ptr rfl, .ptr rfl, .ptr rfl, cB rfl (mOrF (decide_eq_false c17) (mOrF (decide_eq_false c18) rfl)), trivial⟩)
      by_cases c19 : ((decide ((IntKind.i64.wrap (a0.States + x7)) > 4096)) || ((decide ((IntKind.i64.wrap (a0.Symbols + x7)) > 4096)) || (decide ((IntKind.i64.wrap ((a0.Rules.length : Int) + x7)) > 16384)))) = true
      · rw [if_pos c19] at h
        refine .condT rfl c19 ?_
        refine .seq ?_
        refine .reg0 rfl (.op 0 rfl (bldS (cs := [.val (.int .i64 0), .val (.int .i64 0), .val (.slice none 0 0), .val (.int .i64 0), .val (.int .i64 0), .val (.slice none 0 0), .val (.slice none 0 0), .val (.slice none 0 0)]) ze33 pl33 rfl rfl) <| .op 0 rfl (stB (cs0 := [.val (.int .i64 0), .val (.int .i64 0), .val (.slice none 0 0), .val (.int .i64 0), .val (.int .i64 0), .val (.slice none 0 0), .val (.slice none 0 0), .val (.slice none 0 0)]) (cs := [.val (.int .i64 0), .val (.int .i64 0), .val (.slice none 0 0), .val (.int .i64 0), .val (.int .i64 0), .val (.slice none 0 0), .val (.slice none 0 0), .val (.slice none 0 0)]) (cs1 := [.val (.int .i64 0), .val (.int .i64 0), .val (.slice none 0 0), .val (.int .i64 0), .val (.int .i64 0), .val (.slice none 0 0), .val (.slice none 0 0), .val (.slice none 0 0)]) rfl rfl sz33 rfl ⟨Nat.le_of_ble_eq_true rfl, rfl⟩ rfl) <| .op 0 rfl (asV rfl) <| .nil0) ?_
        replace h := h.symm
        subst h
        refine .keepL [] [(2, .cptr [.val (.int .i64 0), .val (.int .i64 0), .rows (([] : List TSpace).map TSpace.cells), .val (.int .i64 0), .val (.int .i64 0), .rows (([] : List TRule).map TRule.cells), .rows (([] : List Int).map (cInt .i64)), .rows (([] : List Bool).map cBool)] 0), (3, .val (.int .i64 3))] [] (by decide) (by decide) ⟨cFixP rfl rfl (.cons (.free rfl rfl) <| .cons (.free rfl rfl) <| .cons (.nil) <| .cons (.free rfl rfl) <| .cons (.free rfl rfl) <| .cons (.nil) <| .cons (.nil) <| .cons (.nil) <| .nil), .free rfl rfl, trivial⟩ trivial ?_
        exact .ret rfl
      · rw [if_neg c19] at h
        refine .condF rfl (Bool.eq_false_iff.mpr c19) ?_
        refine .skip ?_
        refine .seq ?_
        refine .room 0 ?_
        refine .reg0 rfl (.op 0 rfl (faP fa28_0 rfl) <| .op 0 rfl (ldG rfl sz25 ag25 rfl) <| .op 0 rfl (faP fa28_1 rfl) <| .op 0 rfl (ldP rfl sz3 ag3 rfl) <| .op 0 rfl (faP fa28_2 rfl) <| .op 0 rfl (ldP rfl sz3 ag3 rfl) <| .op 0 rfl (bldS (cs := [.val (.int .i64 a0.Space.Tag), .val (.int .i64 a0.Space.Dim), .rows (a0.Space.Parts.map TSpace.cells), .val (.int .i64 a0.States), .val (.int .i64 a0.Symbols), .val (.slice none 0 0)]) ze28 pl28 rfl rfl) <| .op 0 rfl (bldS (cs := [.val (.int .i64 a0.Space.Tag), .val (.int .i64 a0.Space.Dim), .rows (a0.Space.Parts.map TSpace.cells), .val (.int .i64 a0.States), .val (.int .i64 a0.Symbols), .val (.slice none 0 0), .val (.slice none 0 0), .val (.slice none 0 0)]) ze33 pl33 rfl rfl) <| .op 3 rfl (alP (s := 8) ze33 ⟨rfl, by decide, rfl⟩ rfl) <| .op 0 rfl (stB (cs0 := [.val (.int .i64 0), .val (.int .i64 0), .val (.slice none 0 0), .val (.int .i64 0), .val (.int .i64 0), .val (.slice none 0 0), .val (.slice none 0 0), .val (.slice none 0 0)]) (cs := [.val (.int .i64 a0.Space.Tag), .val (.int .i64 a0.Space.Dim), .rows (a0.Space.Parts.map TSpace.cells), .val (.int .i64 a0.States), .val (.int .i64 a0.Symbols), .val (.slice none 0 0), .val (.slice none 0 0), .val (.slice none 0 0)]) (cs1 := [.val (.int .i64 a0.Space.Tag), .val (.int .i64 a0.Space.Dim), .rows (a0.Space.Parts.map TSpace.cells), .val (.int .i64 a0.States), .val (.int .i64 a0.Symbols), .val (.slice none 0 0), .val (.slice none 0 0), .val (.slice none 0 0)]) rfl rfl sz33 rfl ⟨Nat.le_of_ble_eq_true rfl, rfl⟩ rfl) <| .nil0) ?_
        refine .seq ?_
        refine .seq ?_
        refine .reg0 rfl (.op 0 rfl (asV rfl) <| .nil0) ?_
        refine .block ?_
        refine .room 10 ?_
        refine .room 1 ?_
        refine .room 1 ?_
        refine .keepL [0, 1, 2, 3, 4, 5, 6] [(1, .ptr 0 1 6 0 0), (2, .ptr 1 1 8 0 0), (5, .ptr 2 1 6 0 0), (9, .ptr 3 1 8 0 0), (10, .val (.int .i64 0))] [⟨6, [(TPds.lit a0)], 0, none⟩, ⟨8, [[.val (.int .i64 0), .val (.int .i64 0), .val (.slice none 0 0), .val (.int .i64 0), .val (.int .i64 0), .val (.slice none 0 0), .val (.slice none 0 0), .val (.slice none 0 0)]], 0, none⟩, ⟨6, [(TWeight.lit t4_2.1)], 0, none⟩, ⟨8, [[.val (.int .i64 a0.Space.Tag), .val (.int .i64 a0.Space.Dim), .rows (a0.Space.Parts.map TSpace.cells), .val (.int .i64 a0.States), .val (.int .i64 a0.Symbols), .own 4 0, .own 5 0, .own 6 0]], 0, none⟩, ⟨10, [].map TRule.cells, 0, none⟩, ⟨1, [].map (cInt .i64), 0, none⟩, ⟨1, [].map cBool, 0, none⟩] (by decide) (by decide) ⟨.ptr rfl, .ptr rfl, .ptr rfl, .ptr rfl, .free rfl rfl, trivial⟩ ⟨⟨_, rfl, bcBox (all2_free rfl)⟩, ⟨_, rfl, bcBox (all2_free rfl)⟩, ⟨_, rfl, bcBox (all2_free rfl)⟩, ⟨_, rfl, bcBox (.cons (.free rfl rfl) <| .cons (.free rfl rfl) <| .cons (.free rfl rfl) <| .cons (.free rfl rfl) <| .cons (.free rfl rfl) <| .cons (.nilOwn) <| .cons (.nilOwn) <| .cons (.nilOwn) <| .nil)⟩, ⟨_, rfl, (bcRow (l := []) sl26 (Nat.le_refl _) rfl)⟩, ⟨_, rfl, (bcRow (l := []) sl30 (Nat.le_refl _) rfl)⟩, ⟨_, rfl, (bcRow (l := []) sl31 (Nat.le_refl _) rfl)⟩, trivial⟩ ?_
        obtain ⟨o2, hL2, h⟩ := h
        refine .loopB (r11_Short.b2 a0 t4_2) (fun (x46, x47, x48, x49, x50, x51) => listEnv [(1, .ptr 0 1 6 0 0), (2, .ptr 1 1 8 0 0), (5, .ptr 2 1 6 0 0), (9, .ptr 3 1 8 0 0), (10, .val (.int .i64 x51))]) (fun (x46, x47, x48, x49, x50, x51) => [⟨6, [(TPds.lit a0)], 0, none⟩, ⟨8, [[.val (.int .i64 0), .val (.int .i64 0), .val (.slice none 0 0), .val (.int .i64 0), .val (.int .i64 0), .val (.slice none 0 0), .val (.slice none 0 0), .val (.slice none 0 0)]], 0, none⟩, ⟨6, [(TWeight.lit t4_2.1)], 0, none⟩, ⟨8, [[.val (.int .i64 a0.Space.Tag), .val (.int .i64 a0.Space.Dim), .rows (a0.Space.Parts.map TSpace.cells), .val (.int .i64 x46), .val (.int .i64 x47), .own 4 x48.length, .own 5 x49.length, .own 6 x50.length]], 0, none⟩, ⟨10, x48.map TRule.cells, 0, none⟩, ⟨1, x49.map (cInt .i64), 0, none⟩, ⟨1, x50.map cBool, 0, none⟩]) (fun (x82, x83, x84, x85, x86) => listEnv [(2, .ptr 0 1 8 0 0), (9, .ptr 1 1 8 0 0)]) (fun (x82, x83, x84, x85, x86) => [⟨8, [[.val (.int .i64 0), .val (.int .i64 0), .val (.slice none 0 0), .val (.int .i64 0), .val (.int .i64 0), .val (.slice none 0 0), .val (.slice none 0 0), .val (.slice none 0 0)]], 0, none⟩, ⟨8, [[.val (.int .i64 a0.Space.Tag), .val (.int .i64 a0.Space.Dim), .rows (a0.Space.Parts.map TSpace.cells), .val (.int .i64 x82), .val (.int .i64 x83), .own 2 x84.length, .own 3 x85.length, .own 4 x86.length]], 0, none⟩, ⟨10, x84.map TRule.cells, 0, none⟩, ⟨1, x85.map (cInt .i64), 0, none⟩, ⟨1, x86.map cBool, 0, none⟩]) hL2 (fun r_ => r = r_) ?_ ?_ ?_
        · rintro ⟨x82, x83, x84, x85, x86⟩ rfl
          try dsimp only [Fin.on] at h
          refine .seq ?_
          refine .reg0 rfl (.op 0 rfl (ldG rfl sz33 ag33 rfl) <| .op 0 rfl (stB (cs0 := [.val (.int .i64 0), .val (.int .i64 0), .val (.slice none 0 0), .val (.int .i64 0), .val (.int .i64 0), .val (.slice none 0 0), .val (.slice none 0 0), .val (.slice none 0 0)]) (cs := [.val (.int .i64 a0.Space.Tag), .val (.int .i64 a0.Space.Dim), .rows (a0.Space.Parts.map TSpace.cells), .val (.int .i64 x82), .val (.int .i64 x83), .own 2 x84.length, .own 3 x85.length, .own 4 x86.length]) (cs1 := [.val (.int .i64 a0.Space.Tag), .val (.int .i64 a0.Space.Dim), .rows (a0.Space.Parts.map TSpace.cells), .val (.int .i64 x82), .val (.int .i64 x83), .own 2 x84.length, .own 3 x85.length, .own 4 x86.length]) rfl rfl sz33 rfl ⟨Nat.le_of_ble_eq_true rfl, rfl⟩ rfl) <| .op 0 rfl (asV rfl) <| .nil0) ?_
          replace h := h.symm
          subst h
          refine .keepL [] [(2, .cptr [.val (.int .i64 a0.Space.Tag), .val (.int .i64 a0.Space.Dim), .rows (a0.Space.Parts.map TSpace.cells), .val (.int .i64 x82), .val (.int .i64 x83), .rows (x84.map TRule.cells), .rows (x85.map (cInt .i64)), .rows (x86.map cBool)] 0), (3, .val (.int .i64 0))] [] (by decide) (by decide) ⟨cFixP rfl rfl (.cons (.free rfl rfl) <| .cons (.free rfl rfl) <| .cons (.free rfl rfl) <| .cons (.free rfl rfl) <| .cons (.free rfl rfl) <| .cons (cFixO (l := x84) sl26 rfl rfl rfl rfl) <| .cons (cFixO (l := x85) sl30 rfl rfl rfl rfl) <| .cons (cFixO (l := x86) sl31 rfl rfl rfl rfl) <| .nil), .free rfl rfl, trivial⟩ trivial ?_
          exact .ret rfl
        · rintro r_ rfl
          exact h
        · rintro ⟨x46, x47, x48, x49, x50, x51⟩ z2 h hn2 hx2 hr2
          dsimp only [r11_Short.b2] at h
          refine .seq ?_
          refine .seq ?_
          refine .reg0 rfl (.op 0 rfl (mvV rfl) <| .op 0 rfl (faP fa28_3 rfl) <| .op 0 rfl (ldP rfl sz26 ag26 rfl) <| .op 0 rfl (lnR (l := a0.Rules) sl26 rfl) <| .op 0 rfl (ltI rfl rfl) <| .nil0) ?_
          by_cases c26 : x51 < (a0.Rules.length : Int)
          · rw [if_pos c26] at h
            refine .condT rfl (decide_eq_true c26) ?_
            refine .skip ?_
            refine .seq ?_
            refine .block ?_
            refine .seq ?_
            obtain ⟨g86_3, h⟩ := h
            refine .room 0 ?_
            refine .reg0 rfl (.op 0 rfl (faP fa28_3 rfl) <| .op 0 rfl (ldP rfl sz26 ag26 rfl) <| .op 0 rfl (mvV rfl) <| .op 0 rfl (ixR (l := a0.Rules) (lit := TRule.lit) sl26 rfl rfl (fun _ => rfl) g86_3.1 g86_3.2) <| .op 0 rfl (ldCG rfl sz51 ag51 rfl) <| .op 7 rfl (alP (s := 10) ze51 ⟨rfl, by decide, rfl⟩ rfl) <| .op 0 rfl (stB (cs0 := [.val (.int .i64 0), .val (.int .i64 0), .val (.int .i64 0), .val (.slice none 0 0), .val (.bool false), .val (.int .i64 0), .val (.int .u64 0), .val (.slice none 0 0), .val (.slice none 0 0), .val (.slice none 0 0)]) (cs := (TRule.lit (rdl a0.Rules x51))) (cs1 := (TRule.lit (rdl a0.Rules x51))) rfl rfl sz51 rfl ⟨Nat.le_of_ble_eq_true rfl, rfl⟩ rfl) <| .nil0) ?_
            refine .seq ?_
            refine .reg0 rfl (.op 0 rfl (asV rfl) <| .nil0) ?_
            refine .seq ?_
            refine .block ?_
            refine .keepL [0, 1, 2, 3, 4, 5, 6, 7] [(1, .ptr 0 1 6 0 0), (2, .ptr 1 1 8 0 0), (5, .ptr 2 1 6 0 0), (9, .ptr 3 1 8 0 0), (10, .val (.int .i64 x51)), (11, .ptr 7 1 10 0 0), (12, .val (.bool true))] [⟨6, [(TPds.lit a0)], 0, none⟩, ⟨8, [[.val (.int .i64 0), .val (.int .i64 0), .val (.slice none 0 0), .val (.int .i64 0), .val (.int .i64 0), .val (.slice none 0 0), .val (.slice none 0 0), .val (.slice none 0 0)]], 0, none⟩, ⟨6, [(TWeight.lit t4_2.1)], 0, none⟩, ⟨8, [[.val (.int .i64 a0.Space.Tag), .val (.int .i64 a0.Space.Dim), .rows (a0.Space.Parts.map TSpace.cells), .val (.int .i64 x46), .val (.int .i64 x47), .own 4 x48.length, .own 5 x49.length, .own 6 x50.length]], 0, none⟩, ⟨10, x48.map TRule.cells, 0, none⟩, ⟨1, x49.map (cInt .i64), 0, none⟩, ⟨1, x50.map cBool, 0, none⟩, ⟨10, [(TRule.lit (rdl a0.Rules x51))], 0, none⟩] (by decide) (by decide) ⟨.ptr rfl, .ptr rfl, .ptr rfl, .ptr rfl, .free rfl rfl, .ptr rfl, .free rfl rfl, trivial⟩ ⟨⟨_, rfl, bcBox (all2_free rfl)⟩, ⟨_, rfl, bcBox (all2_free rfl)⟩, ⟨_, rfl, bcBox (all2_free rfl)⟩, ⟨_, rfl, bcBox (.cons (.free rfl rfl) <| .cons (.free rfl rfl) <| .cons (.free rfl rfl) <| .cons (.free rfl rfl) <| .cons (.free rfl rfl) <| .cons (.own rfl) <| .cons (.own rfl) <| .cons (.own rfl) <| .nil)⟩, ⟨_, rfl, bcRow (l := x48) sl26 (Nat.le_refl _) rfl⟩, ⟨_, rfl, bcRow (l := x49) sl30 (Nat.le_refl _) rfl⟩, ⟨_, rfl, bcRow (l := x50) sl31 (Nat.le_refl _) rfl⟩, ⟨_, rfl, bcBox (all2_free rfl)⟩, trivial⟩ ?_
            obtain ⟨o3, hL3, h⟩ := h
            refine .loopB (r11_Short.b3 t4_2 x51) (fun (x87, x88, x89, x90, x91, x92, x93, x94, x95, x96, x97, x98, x99, x100, x101) => listEnv [(1, .ptr 0 1 6 0 0), (2, .ptr 1 1 8 0 0), (5, .ptr 2 1 6 0 0), (9, .ptr 3 1 8 0 0), (10, .val (.int .i64 x51)), (11, .ptr 7 1 10 0 0), (12, .val (.bool x101))]) (fun (x87, x88, x89, x90, x91, x92, x93, x94, x95, x96, x97, x98, x99, x100, x101) => [⟨6, [(TPds.lit a0)], 0, none⟩, ⟨8, [[.val (.int .i64 0), .val (.int .i64 0), .val (.slice none 0 0), .val (.int .i64 0), .val (.int .i64 0), .val (.slice none 0 0), .val (.slice none 0 0), .val (.slice none 0 0)]], 0, none⟩, ⟨6, [(TWeight.lit t4_2.1)], 0, none⟩, ⟨8, [[.val (.int .i64 a0.Space.Tag), .val (.int .i64 a0.Space.Dim), .rows (a0.Space.Parts.map TSpace.cells), .val (.int .i64 x87), .val (.int .i64 x88), .own 4 x89.length, .own 5 x90.length, .own 6 x91.length]], 0, none⟩, ⟨10, x89.map TRule.cells, 0, none⟩, ⟨1, x90.map (cInt .i64), 0, none⟩, ⟨1, x91.map cBool, 0, none⟩, ⟨10, [[.val (.int .i64 x92), .val (.int .i64 x93), .val (.int .i64 ((rdl a0.Rules x51).Q)), .rows (x94.map (cInt .i64)), .val (.bool x95), .val (.int .i64 x96), .val (.int .u64 x97), .rows (x98.map (cInt .u64)), .rows (x99.map TCell.cells), .rows (x100.map TWeight.cells)]], 0, none⟩]) (fun (x102, x103, x104, x105, x106, x107, x108, x109, x110, x111, x112, x113, x114, x115, x116) => listEnv [(1, .ptr 0 1 6 0 0), (2, .ptr 1 1 8 0 0), (5, .ptr 2 1 6 0 0), (9, .ptr 3 1 8 0 0), (10, .val (.int .i64 x51)), (11, .ptr 7 1 10 0 0), (12, .val (.bool x116))]) (fun (x102, x103, x104, x105, x106, x107, x108, x109, x110, x111, x112, x113, x114, x115, x116) => [⟨6, [(TPds.lit a0)], 0, none⟩, ⟨8, [[.val (.int .i64 0), .val (.int .i64 0), .val (.slice none 0 0), .val (.int .i64 0), .val (.int .i64 0), .val (.slice none 0 0), .val (.slice none 0 0), .val (.slice none 0 0)]], 0, none⟩, ⟨6, [(TWeight.lit t4_2.1)], 0, none⟩, ⟨8, [[.val (.int .i64 a0.Space.Tag), .val (.int .i64 a0.Space.Dim), .rows (a0.Space.Parts.map TSpace.cells), .val (.int .i64 x102), .val (.int .i64 x103), .own 4 x104.length, .own 5 x105.length, .own 6 x106.length]], 0, none⟩, ⟨10, x104.map TRule.cells, 0, none⟩, ⟨1, x105.map (cInt .i64), 0, none⟩, ⟨1, x106.map cBool, 0, none⟩, ⟨10, [[.val (.int .i64 x107), .val (.int .i64 x108), .val (.int .i64 ((rdl a0.Rules x51).Q)), .rows (x109.map (cInt .i64)), .val (.bool x110), .val (.int .i64 x111), .val (.int .u64 x112), .rows (x113.map (cInt .u64)), .rows (x114.map TCell.cells), .rows (x115.map TWeight.cells)]], 0, none⟩]) hL3 (fun r_ => z2 = .ret r_) ?_ ?_ ?_
            · rintro ⟨x102, x103, x104, x105, x106, x107, x108, x109, x110, x111, x112, x113, x114, x115, x116⟩ rfl
              try dsimp only [Fin.on] at h
              refine .seq ?_
              obtain ⟨g115_5, h⟩ := h
              refine .room 0 ?_
              refine .room 0 ?_
              refine .reg0 rfl (.op 0 rfl (faP fa33_0 rfl) <| .op 0 rfl (faP fa28_3 rfl) <| .op 0 rfl (ldP rfl sz26 ag26 rfl) <| .op 0 rfl (ldG rfl sz51 ag51 rfl) <| .op 8 rfl (bldL (s := 10) (cs := [.val (.int .i64 x107), .val (.int .i64 x108), .val (.int .i64 ((rdl a0.Rules x51).Q)), .rows (x109.map (cInt .i64)), .val (.bool x110), .val (.int .i64 x111), .val (.int .u64 x112), .rows (x113.map (cInt .u64)), .rows (x114.map TCell.cells), .rows (x115.map TWeight.cells)]) un26 sz51 ze51 ⟨by decide, rfl, by decide⟩ rfl rfl rfl rfl) <| .op 0 rfl (ap1 (l := x104) (TRule.mk x107 x108 ((rdl a0.Rules x51).Q) x109 (TWeight.mk x110 x111 (TFacts.mk x112 x113) x114 x115)) sl26 rfl rfl rfl (Nat.zero_le _) (elems_own (l := [(TRule.mk x107 x108 ((rdl a0.Rules x51).Q) x109 (TWeight.mk x110 x111 (TFacts.mk x112 x113) x114 x115))]) rfl rfl) g115_5) <| .op 0 rfl (faP fa33_0 rfl) <| .op 0 rfl (faP fa28_3 rfl) <| .op 0 rfl (stB (cs0 := [.val (.int .i64 a0.Space.Tag), .val (.int .i64 a0.Space.Dim), .rows (a0.Space.Parts.map TSpace.cells), .val (.int .i64 x102), .val (.int .i64 x103), .own 4 x104.length, .own 5 x105.length, .own 6 x106.length]) (cs := [.own 4 ((x104 ++ [(TRule.mk x107 x108 ((rdl a0.Rules x51).Q) x109 (TWeight.mk x110 x111 (TFacts.mk x112 x113) x114 x115))]).length)]) (cs1 := [.val (.int .i64 a0.Space.Tag), .val (.int .i64 a0.Space.Dim), .rows (a0.Space.Parts.map TSpace.cells), .val (.int .i64 x102), .val (.int .i64 x103), .own 4 ((x104 ++ [(TRule.mk x107 x108 ((rdl a0.Rules x51).Q) x109 (TWeight.mk x110 x111 (TFacts.mk x112 x113) x114 x115))]).length), .own 5 x105.length, .own 6 x106.length]) rfl rfl sz26 rfl ⟨Nat.le_of_ble_eq_true rfl, rfl⟩ rfl) <| .nil0) ?_
              refine .seq ?_
              obtain ⟨g116_4, h⟩ := h
              refine .room 0 ?_
              refine .room 0 ?_
              refine .reg0 rfl (.op 0 rfl (faP fa33_1 rfl) <| .op 0 rfl (ldP rfl sz30 ag30 rfl) <| .op 0 rfl (mvV rfl) <| .op 10 rfl (bldL (s := 1) (cs := [.val (.int .i64 x51)]) un30 sz3 ze3 ⟨by decide, rfl, by decide⟩ rfl rfl rfl rfl) <| .op 0 rfl (ap1 (l := x105) x51 sl30 rfl rfl rfl (Nat.zero_le _) (elems_own (l := [x51]) rfl rfl) g116_4) <| .op 0 rfl (faP fa33_1 rfl) <| .op 0 rfl (stB (cs0 := [.val (.int .i64 a0.Space.Tag), .val (.int .i64 a0.Space.Dim), .rows (a0.Space.Parts.map TSpace.cells), .val (.int .i64 x102), .val (.int .i64 x103), .own 4 ((x104 ++ [(TRule.mk x107 x108 ((rdl a0.Rules x51).Q) x109 (TWeight.mk x110 x111 (TFacts.mk x112 x113) x114 x115))]).length), .own 5 x105.length, .own 6 x106.length]) (cs := [.own 5 ((x105 ++ [x51]).length)]) (cs1 := [.val (.int .i64 a0.Space.Tag), .val (.int .i64 a0.Space.Dim), .rows (a0.Space.Parts.map TSpace.cells), .val (.int .i64 x102), .val (.int .i64 x103), .own 4 ((x104 ++ [(TRule.mk x107 x108 ((rdl a0.Rules x51).Q) x109 (TWeight.mk x110 x111 (TFacts.mk x112 x113) x114 x115))]).length), .own 5 ((x105 ++ [x51]).length), .own 6 x106.length]) rfl rfl sz30 rfl ⟨Nat.le_of_ble_eq_true rfl, rfl⟩ rfl) <| .nil0) ?_
              obtain ⟨g117_4, h⟩ := h
              refine .room 0 ?_
              refine .room 0 ?_
              refine .reg0 rfl (.op 0 rfl (faP fa33_2 rfl) <| .op 0 rfl (ldP rfl sz31 ag31 rfl) <| .op 0 rfl (mvV rfl) <| .op 12 rfl (bldL (s := 1) (cs := [.val (.bool x116)]) un31 sz4 ze4 ⟨by decide, rfl, by decide⟩ rfl rfl rfl rfl) <| .op 0 rfl (ap1 (l := x106) x116 sl31 rfl rfl rfl (Nat.zero_le _) (elems_own (l := [x116]) rfl rfl) g117_4) <| .op 0 rfl (faP fa33_2 rfl) <| .op 0 rfl (stB (cs0 := [.val (.int .i64 a0.Space.Tag), .val (.int .i64 a0.Space.Dim), .rows (a0.Space.Parts.map TSpace.cells), .val (.int .i64 x102), .val (.int .i64 x103), .own 4 ((x104 ++ [(TRule.mk x107 x108 ((rdl a0.Rules x51).Q) x109 (TWeight.mk x110 x111 (TFacts.mk x112 x113) x114 x115))]).length), .own 5 ((x105 ++ [x51]).length), .own 6 x106.length]) (cs := [.own 6 ((x106 ++ [x116]).length)]) (cs1 := [.val (.int .i64 a0.Space.Tag), .val (.int .i64 a0.Space.Dim), .rows (a0.Space.Parts.map TSpace.cells), .val (.int .i64 x102), .val (.int .i64 x103), .own 4 ((x104 ++ [(TRule.mk x107 x108 ((rdl a0.Rules x51).Q) x109 (TWeight.mk x110 x111 (TFacts.mk x112 x113) x114 x115))]).length), .own 5 ((x105 ++ [x51]).length), .own 6 ((x106 ++ [x116]).length)]) rfl rfl sz31 rfl ⟨Nat.le_of_ble_eq_true rfl, rfl⟩ rfl) <| .nil0) ?_
              refine .inBlock ?_
              refine .reg0 (e1 := listEnv [(1, .ptr 0 1 6 0 0), (2, .ptr 1 1 8 0 0), (5, .ptr 2 1 6 0 0), (9, .ptr 3 1 8 0 0), (10, .val (.int .i64 (IntKind.i64.wrap (x51 + 1))))]) (H1 := [⟨6, [(TPds.lit a0)], 0, none⟩, ⟨8, [[.val (.int .i64 0), .val (.int .i64 0), .val (.slice none 0 0), .val (.int .i64 0), .val (.int .i64 0), .val (.slice none 0 0), .val (.slice none 0 0), .val (.slice none 0 0)]], 0, none⟩, ⟨6, [(TWeight.lit t4_2.1)], 0, none⟩, ⟨8, [[.val (.int .i64 a0.Space.Tag), .val (.int .i64 a0.Space.Dim), .rows (a0.Space.Parts.map TSpace.cells), .val (.int .i64 x102), .val (.int .i64 x103), .own 4 ((x104 ++ [(TRule.mk x107 x108 ((rdl a0.Rules x51).Q) x109 (TWeight.mk x110 x111 (TFacts.mk x112 x113) x114 x115))]).length), .own 5 ((x105 ++ [x51]).length), .own 6 ((x106 ++ [x116]).length)]], 0, none⟩, ⟨10, (x104 ++ [(TRule.mk x107 x108 ((rdl a0.Rules x51).Q) x109 (TWeight.mk x110 x111 (TFacts.mk x112 x113) x114 x115))]).map TRule.cells, 0, none⟩, ⟨1, (x105 ++ [x51]).map (cInt .i64), 0, none⟩, ⟨1, (x106 ++ [x116]).map cBool, 0, none⟩, ⟨10, [[.val (.int .i64 x107), .val (.int .i64 x108), .val (.int .i64 ((rdl a0.Rules x51).Q)), .rows (x109.map (cInt .i64)), .val (.bool x110), .val (.int .i64 x111), .val (.int .u64 x112), .rows (x113.map (cInt .u64)), .rows (x114.map TCell.cells), .rows (x115.map TWeight.cells)]], 0, none⟩, ⟨10, [(TRule.mk x107 x108 ((rdl a0.Rules x51).Q) x109 (TWeight.mk x110 x111 (TFacts.mk x112 x113) x114 x115))].map TRule.cells, 0, none⟩, Blk.hole, ⟨1, [x51].map (cInt .i64), 0, none⟩, Blk.hole, ⟨1, [x116].map cBool, 0, none⟩, Blk.hole]) rfl (.op 0 rfl (mvV rfl) <| .op 0 rfl (addI rfl rfl) <| .op 0 rfl (asV rfl) <| .nilL _ ⟨.ptr rfl, .ptr rfl, .ptr rfl, .ptr rfl, .free rfl rfl, trivial⟩) ?_
              refine .keepL [0, 1, 2, 3, 4, 5, 6] [(1, .ptr 0 1 6 0 0), (2, .ptr 1 1 8 0 0), (5, .ptr 2 1 6 0 0), (9, .ptr 3 1 8 0 0), (10, .val (.int .i64 (IntKind.i64.wrap (x51 + 1))))] [⟨6, [(TPds.lit a0)], 0, none⟩, ⟨8, [[.val (.int .i64 0), .val (.int .i64 0), .val (.slice none 0 0), .val (.int .i64 0), .val (.int .i64 0), .val (.slice none 0 0), .val (.slice none 0 0), .val (.slice none 0 0)]], 0, none⟩, ⟨6, [(TWeight.lit t4_2.1)], 0, none⟩, ⟨8, [[.val (.int .i64 a0.Space.Tag), .val (.int .i64 a0.Space.Dim), .rows (a0.Space.Parts.map TSpace.cells), .val (.int .i64 x102), .val (.int .i64 x103), .own 4 ((x104 ++ [(TRule.mk x107 x108 ((rdl a0.Rules x51).Q) x109 (TWeight.mk x110 x111 (TFacts.mk x112 x113) x114 x115))]).length), .own 5 ((x105 ++ [x51]).length), .own 6 ((x106 ++ [x116]).length)]], 0, none⟩, ⟨10, (x104 ++ [(TRule.mk x107 x108 ((rdl a0.Rules x51).Q) x109 (TWeight.mk x110 x111 (TFacts.mk x112 x113) x114 x115))]).map TRule.cells, 0, none⟩, ⟨1, (x105 ++ [x51]).map (cInt .i64), 0, none⟩, ⟨1, (x106 ++ [x116]).map cBool, 0, none⟩] (by decide) (by decide) ⟨.ptr rfl, .ptr rfl, .ptr rfl, .ptr rfl, .free rfl rfl, trivial⟩ ⟨⟨_, rfl, bcBox (all2_free rfl)⟩, ⟨_, rfl, bcBox (all2_free rfl)⟩, ⟨_, rfl, bcBox (all2_free rfl)⟩, ⟨_, rfl, bcBox (.cons (.free rfl rfl) <| .cons (.free rfl rfl) <| .cons (.free rfl rfl) <| .cons (.free rfl rfl) <| .cons (.free rfl rfl) <| .cons (.own rfl) <| .cons (.own rfl) <| .cons (.own rfl) <| .nil)⟩, ⟨_, rfl, bcRow (l := (x104 ++ [(TRule.mk x107 x108 ((rdl a0.Rules x51).Q) x109 (TWeight.mk x110 x111 (TFacts.mk x112 x113) x114 x115))])) sl26 (Nat.le_refl _) rfl⟩, ⟨_, rfl, bcRow (l := (x105 ++ [x51])) sl30 (Nat.le_refl _) rfl⟩, ⟨_, rfl, bcRow (l := (x106 ++ [x116])) sl31 (Nat.le_refl _) rfl⟩, trivial⟩ ?_
              exact hn2 _ h
            · rintro r_ rfl
              exact h
            · rintro ⟨x87, x88, x89, x90, x91, x92, x93, x94, x95, x96, x97, x98, x99, x100, x101⟩ z3 h hn3 hx3 hr3
              dsimp only [r11_Short.b3] at h
              refine .seq ?_
              refine .seq ?_
              refine .reg0 rfl (.op 0 rfl (faP fa51_3 rfl) <| .op 0 rfl (ldP rfl sz30 ag30 rfl) <| .op 0 rfl (lnR (l := x94) sl30 rfl) <| .op 0 rfl (gtI rfl rfl) <| .nil0) ?_
              by_cases c29 : (x94.length : Int) > 2
              · rw [if_pos c29] at h
                refine .condT rfl (decide_eq_true c29) ?_
                refine .skip ?_
                refine .block ?_
                refine .seq ?_
                refine .reg1 (e1 := listEnv [(1, .ptr 0 1 6 0 0), (2, .ptr 1 1 8 0 0), (5, .ptr 2 1 6 0 0), (9, .ptr 3 1 8 0 0), (10, .val (.int .i64 x51)), (11, .ptr 7 1 10 0 0), (12, .val (.bool x101)), (13, .val (.int .i64 x87)), (14, .val (.int .i64 x88))]) (H1 := [⟨6, [(TPds.lit a0)], 0, none⟩, ⟨8, [[.val (.int .i64 0), .val (.int .i64 0), .val (.slice none 0 0), .val (.int .i64 0), .val (.int .i64 0), .val (.slice none 0 0), .val (.slice none 0 0), .val (.slice none 0 0)]], 0, none⟩, ⟨6, [(TWeight.lit t4_2.1)], 0, none⟩, ⟨8, [[.val (.int .i64 a0.Space.Tag), .val (.int .i64 a0.Space.Dim), .rows (a0.Space.Parts.map TSpace.cells), .val (.int .i64 x87), .val (.int .i64 x88), .own 4 x89.length, .own 5 x90.length, .own 6 x91.length]], 0, none⟩, ⟨10, x89.map TRule.cells, 0, none⟩, ⟨1, x90.map (cInt .i64), 0, none⟩, ⟨1, x91.map cBool, 0, none⟩, ⟨10, [[.val (.int .i64 x92), .val (.int .i64 x93), .val (.int .i64 ((rdl a0.Rules x51).Q)), .rows (x94.map (cInt .i64)), .val (.bool x95), .val (.int .i64 x96), .val (.int .u64 x97), .rows (x98.map (cInt .u64)), .rows (x99.map TCell.cells), .rows (x100.map TWeight.cells)]], 0, none⟩]) rfl ?_ ?_
                · exact .drawM [(7, 14, .val (.int .i64 x88)), (6, 13, .val (.int .i64 x87)), (5, 102, .val (.int .i64 x88)), (4, 101, .ptr 3 1 8 0 4), (3, 100, .ptr 3 1 8 0 0), (2, 99, .val (.int .i64 x87)), (1, 98, .ptr 3 1 8 0 3), (0, 97, .ptr 3 1 8 0 0)] [] [[], [0], [1, 0], [], [3], [4, 3], [2, 1, 0], [5, 4, 3, 6, 2, 1, 0]] (by rfl) (by rfl) (by rfl) (by exact ⟨fun S hS hD hn => .one 0 hS hD hn rfl rfl (faP fa33_0 rfl) rfl rfl rfl, fun S hS hD hn => .one 0 hS hD hn rfl rfl (faP fa28_1 rfl) rfl rfl rfl, fun S hS hD hn => .one 0 hS hD hn rfl rfl (ldP rfl sz3 ag3 rfl) rfl rfl rfl, fun S hS hD hn => .one 0 hS hD hn rfl rfl (faP fa33_0 rfl) rfl rfl rfl, fun S hS hD hn => .one 0 hS hD hn rfl rfl (faP fa28_2 rfl) rfl rfl rfl, fun S hS hD hn => .one 0 hS hD hn rfl rfl (ldP rfl sz3 ag3 rfl) rfl rfl rfl, fun S hS hD hn => .one 0 hS hD hn rfl rfl (asV rfl) rfl rfl rfl, fun S hS hD hn => .one 0 hS hD hn rfl rfl (asV rfl) rfl rfl rfl, trivial⟩) _ (by exact ⟨.ptr rfl, .ptr rfl, .ptr rfl, .ptr rfl, .free rfl rfl, .ptr rfl, .free rfl rfl, .free rfl rfl, .free rfl rfl, trivial⟩) (by rfl)
                refine .seq ?_
                refine .reg0 rfl (.op 0 rfl (faP fa33_0 rfl) <| .op 0 rfl (faP fa28_1 rfl) <| .op 0 rfl (ldP rfl sz3 ag3 rfl) <| .op 0 rfl (addI rfl rfl) <| .op 0 rfl (faP fa33_0 rfl) <| .op 0 rfl (faP fa28_1 rfl) <| .op 0 rfl (stB (cs0 := [.val (.int .i64 a0.Space.Tag), .val (.int .i64 a0.Space.Dim), .rows (a0.Space.Parts.map TSpace.cells), .val (.int .i64 x87), .val (.int .i64 x88), .own 4 x89.length, .own 5 x90.length, .own 6 x91.length]) (cs := [.val (.int .i64 (IntKind.i64.wrap (x87 + 1)))]) (cs1 := [.val (.int .i64 a0.Space.Tag), .val (.int .i64 a0.Space.Dim), .rows (a0.Space.Parts.map TSpace.cells), .val (.int .i64 (IntKind.i64.wrap (x87 + 1))), .val (.int .i64 x88), .own 4 x89.length, .own 5 x90.length, .own 6 x91.length]) rfl rfl sz3 rfl ⟨Nat.le_of_ble_eq_true rfl, rfl⟩ rfl) <| .nil0) ?_
                refine .seq ?_
                refine .reg0 rfl (.op 0 rfl (faP fa33_0 rfl) <| .op 0 rfl (faP fa28_2 rfl) <| .op 0 rfl (ldP rfl sz3 ag3 rfl) <| .op 0 rfl (addI rfl rfl) <| .op 0 rfl (faP fa33_0 rfl) <| .op 0 rfl (faP fa28_2 rfl) <| .op 0 rfl (stB (cs0 := [.val (.int .i64 a0.Space.Tag), .val (.int .i64 a0.Space.Dim), .rows (a0.Space.Parts.map TSpace.cells), .val (.int .i64 (IntKind.i64.wrap (x87 + 1))), .val (.int .i64 x88), .own 4 x89.length, .own 5 x90.length, .own 6 x91.length]) (cs := [.val (.int .i64 (IntKind.i64.wrap (x88 + 1)))]) (cs1 := [.val (.int .i64 a0.Space.Tag), .val (.int .i64 a0.Space.Dim), .rows (a0.Space.Parts.map TSpace.cells), .val (.int .i64 (IntKind.i64.wrap (x87 + 1))), .val (.int .i64 (IntKind.i64.wrap (x88 + 1))), .own 4 x89.length, .own 5 x90.length, .own 6 x91.length]) rfl rfl sz3 rfl ⟨Nat.le_of_ble_eq_true rfl, rfl⟩ rfl) <| .nil0) ?_
                refine .seq ?_
                obtain ⟨g110_15, h⟩ := h
                obtain ⟨g110_22, h⟩ := h
                refine .room 0 ?_
                refine .room 0 ?_
                refine .room 0 ?_
                refine .reg1 (e1 := listEnv [(1, .ptr 0 1 6 0 0), (2, .ptr 1 1 8 0 0), (5, .ptr 2 1 6 0 0), (9, .ptr 3 1 8 0 0), (10, .val (.int .i64 x51)), (11, .ptr 7 1 10 0 0), (12, .val (.bool x101)), (13, .val (.int .i64 x87)), (14, .val (.int .i64 x88))]) (H1 := [⟨6, [(TPds.lit a0)], 0, none⟩, ⟨8, [[.val (.int .i64 0), .val (.int .i64 0), .val (.slice none 0 0), .val (.int .i64 0), .val (.int .i64 0), .val (.slice none 0 0), .val (.slice none 0 0), .val (.slice none 0 0)]], 0, none⟩, ⟨6, [(TWeight.lit t4_2.1)], 0, none⟩, ⟨8, [[.val (.int .i64 a0.Space.Tag), .val (.int .i64 a0.Space.Dim), .rows (a0.Space.Parts.map TSpace.cells), .val (.int .i64 (IntKind.i64.wrap (x87 + 1))), .val (.int .i64 (IntKind.i64.wrap (x88 + 1))), .own 4 (x89.length + 1), .own 5 x90.length, .own 6 x91.length]], 0, none⟩, ⟨10, x89.map TRule.cells ++ [[.val (.int .i64 x92), .val (.int .i64 x93), .val (.int .i64 x87), .own 8 ([x88, (rdl x94 (IntKind.i64.wrap ((x94.length : Int) - 1)))].length), .val (.bool x95), .val (.int .i64 x96), .val (.int .u64 x97), .rows (x98.map (cInt .u64)), .rows (x99.map TCell.cells), .rows (x100.map TWeight.cells)]], 0, none⟩, ⟨1, x90.map (cInt .i64), 0, none⟩, ⟨1, x91.map cBool, 0, none⟩, ⟨10, [[.val (.int .i64 x92), .val (.int .i64 x93), .val (.int .i64 ((rdl a0.Rules x51).Q)), .rows (x94.map (cInt .i64)), .val (.bool x95), .val (.int .i64 x96), .val (.int .u64 x97), .rows (x98.map (cInt .u64)), .rows (x99.map TCell.cells), .rows (x100.map TWeight.cells)]], 0, none⟩, ⟨1, [x88, (rdl x94 (IntKind.i64.wrap ((x94.length : Int) - 1)))].map (cInt .i64), 0, none⟩, ⟨10, [[.val (.int .i64 x92), .val (.int .i64 x93), .val (.int .i64 x87), .own 8 ([x88, (rdl x94 (IntKind.i64.wrap ((x94.length : Int) - 1)))].length), .val (.bool x95), .val (.int .i64 x96), .val (.int .u64 x97), .rows (x98.map (cInt .u64)), .rows (x99.map TCell.cells), .rows (x100.map TWeight.cells)]], 0, none⟩, Blk.hole]) rfl ?_ ?_
                · exact .drawM [(24, 139, .ptr 3 1 8 0 5), (23, 138, .ptr 3 1 8 0 0), (22, 137, .own 4 (x89.length + 1)), (21, 136, .own 9 1), (20, 135, .agg [.val (.int .i64 x92), .val (.int .i64 x93), .val (.int .i64 x87), .own 8 ([x88, (rdl x94 (IntKind.i64.wrap ((x94.length : Int) - 1)))].length), .val (.bool x95), .val (.int .i64 x96), .val (.int .u64 x97), .rows (x98.map (cInt .u64)), .rows (x99.map TCell.cells), .rows (x100.map TWeight.cells)]), (19, 134, .agg [.val (.bool x95), .val (.int .i64 x96), .val (.int .u64 x97), .rows (x98.map (cInt .u64)), .rows (x99.map TCell.cells), .rows (x100.map TWeight.cells)]), (18, 133, .ptr 7 1 10 0 4), (17, 132, .own 8 ([x88, (rdl x94 (IntKind.i64.wrap ((x94.length : Int) - 1)))].length)), (16, 131, .val (.int .i64 (rdl x94 (IntKind.i64.wrap ((x94.length : Int) - 1))))), (15, 130, .cptr ((cInt .i64) (rdl x94 (IntKind.i64.wrap ((x94.length : Int) - 1)))) 0), (14, 129, .val (.int .i64 (IntKind.i64.wrap ((x94.length : Int) - 1)))), (13, 128, .val (.int .i64 (x94.length : Int))), (12, 127, .rows (x94.map (cInt .i64))), (11, 126, .ptr 7 1 10 0 3), (10, 125, .rows (x94.map (cInt .i64))), (9, 124, .ptr 7 1 10 0 3), (8, 123, .val (.int .i64 x88)), (7, 122, .val (.int .i64 x87)), (6, 121, .val (.int .i64 x93)), (5, 120, .ptr 7 1 10 0 1), (4, 119, .val (.int .i64 x92)), (3, 118, .ptr 7 1 10 0 0), (2, 117, .own 4 x89.length), (1, 116, .ptr 3 1 8 0 5), (0, 115, .ptr 3 1 8 0 0)] [(25, 3, ⟨8, [[.val (.int .i64 a0.Space.Tag), .val (.int .i64 a0.Space.Dim), .rows (a0.Space.Parts.map TSpace.cells), .val (.int .i64 (IntKind.i64.wrap (x87 + 1))), .val (.int .i64 (IntKind.i64.wrap (x88 + 1))), .own 4 (x89.length + 1), .own 5 x90.length, .own 6 x91.length]], 0, none⟩), (22, 4, ⟨10, x89.map TRule.cells ++ [[.val (.int .i64 x92), .val (.int .i64 x93), .val (.int .i64 x87), .own 8 ([x88, (rdl x94 (IntKind.i64.wrap ((x94.length : Int) - 1)))].length), .val (.bool x95), .val (.int .i64 x96), .val (.int .u64 x97), .rows (x98.map (cInt .u64)), .rows (x99.map TCell.cells), .rows (x100.map TWeight.cells)]], 0, none⟩), (21, 9, ⟨10, [[.val (.int .i64 x92), .val (.int .i64 x93), .val (.int .i64 x87), .own 8 ([x88, (rdl x94 (IntKind.i64.wrap ((x94.length : Int) - 1)))].length), .val (.bool x95), .val (.int .i64 x96), .val (.int .u64 x97), .rows (x98.map (cInt .u64)), .rows (x99.map TCell.cells), .rows (x100.map TWeight.cells)]], 0, none⟩), (17, 8, ⟨1, [x88, (rdl x94 (IntKind.i64.wrap ((x94.length : Int) - 1)))].map (cInt .i64), 0, none⟩)] [[], [0], [1, 0], [], [3], [], [5], [], [], [], [9], [], [11], [12, 11], [13, 12, 11], [10, 9, 14, 13, 12, 11], [15, 10, 9, 14, 13, 12, 11], [8, 16, 15, 10, 9, 14, 13, 12, 11], [], [18], [4, 3, 6, 5, 7, 17, 8, 16, 15, 10, 9, 14, 13, 12, 11, 19, 18], [20, 4, 3, 6, 5, 7, 17, 8, 16, 15, 10, 9, 14, 13, 12, 11, 19, 18], [2, 1, 0, 21, 20, 4, 3, 6, 5, 7, 17, 8, 16, 15, 10, 9, 14, 13, 12, 11, 19, 18], [0, 1, 2, 3, 4, 5, 6, 7, 8, 9, 10, 11, 12, 13, 14, 15, 16, 17, 18, 19, 20, 21, 22], [23, 0, 1, 2, 3, 4, 5, 6, 7, 8, 9, 10, 11, 12, 13, 14, 15, 16, 17, 18, 19, 20, 21, 22], [24, 23, 0, 1, 2, 3, 4, 5, 6, 7, 8, 9, 10, 11, 12, 13, 14, 15, 16, 17, 18, 19, 20, 21, 22]] (by rfl) (by rfl) (by rfl) (by exact ⟨fun S hS hD hn => .one 0 hS hD hn rfl rfl (faP fa33_0 rfl) rfl rfl rfl, fun S hS hD hn => .one 0 hS hD hn rfl rfl (faP fa28_3 rfl) rfl rfl rfl, fun S hS hD hn => .one 0 hS hD hn rfl rfl (ldP rfl sz26 ag26 rfl) rfl rfl rfl, fun S hS hD hn => .one 0 hS hD hn rfl rfl (faP fa51_0 rfl) rfl rfl rfl, fun S hS hD hn => .one 0 hS hD hn rfl rfl (ldP rfl sz3 ag3 rfl) rfl rfl rfl, fun S hS hD hn => .one 0 hS hD hn rfl rfl (faP fa51_1 rfl) rfl rfl rfl, fun S hS hD hn => .one 0 hS hD hn rfl rfl (ldP rfl sz3 ag3 rfl) rfl rfl rfl, fun S hS hD hn => .one 0 hS hD hn rfl rfl (mvV rfl) rfl rfl rfl, fun S hS hD hn => .one 0 hS hD hn rfl rfl (mvV rfl) rfl rfl rfl, fun S hS hD hn => .one 0 hS hD hn rfl rfl (faP fa51_3 rfl) rfl rfl rfl, fun S hS hD hn => .one 0 hS hD hn rfl rfl (ldP rfl sz30 ag30 rfl) rfl rfl rfl, fun S hS hD hn => .one 0 hS hD hn rfl rfl (faP fa51_3 rfl) rfl rfl rfl, fun S hS hD hn => .one 0 hS hD hn rfl rfl (ldP rfl sz30 ag30 rfl) rfl rfl rfl, fun S hS hD hn => .one 0 hS hD hn rfl rfl (lnR (l := x94) sl30 rfl) rfl rfl rfl, fun S hS hD hn => .one 0 hS hD hn rfl rfl (subI rfl rfl) rfl rfl rfl, fun S hS hD hn => .one 0 hS hD hn rfl rfl (ixR (l := x94) (lit := (cInt .i64)) sl30 rfl rfl (fun _ => rfl) g110_15.1 g110_15.2) rfl rfl rfl, fun S hS hD hn => .one 0 hS hD hn rfl rfl (ldC rfl sz3 ag3 rfl) rfl rfl rfl, fun S hS hD hn => .one 8 hS hD hn rfl rfl (bldL (s := 1) (cs := [.val (.int .i64 x88), .val (.int .i64 (rdl x94 (IntKind.i64.wrap ((x94.length : Int) - 1))))]) un30 sz3 ze3 ⟨by decide, rfl, by decide⟩ rfl rfl rfl rfl) rfl rfl rfl, fun S hS hD hn => .one 0 hS hD hn rfl rfl (faP fa51_4 rfl) rfl rfl rfl, fun S hS hD hn => .one 0 hS hD hn rfl rfl (ldG rfl sz49 ag49 rfl) rfl rfl rfl, fun S hS hD hn => .one 0 hS hD hn rfl rfl (bldS (cs := [.val (.int .i64 x92), .val (.int .i64 x93), .val (.int .i64 x87), .own 8 ([x88, (rdl x94 (IntKind.i64.wrap ((x94.length : Int) - 1)))].length), .val (.bool x95), .val (.int .i64 x96), .val (.int .u64 x97), .rows (x98.map (cInt .u64)), .rows (x99.map TCell.cells), .rows (x100.map TWeight.cells)]) ze51 pl51 rfl rfl) rfl rfl rfl, fun S hS hD hn => .one 9 hS hD hn rfl rfl (bldL (s := 10) (cs := [.val (.int .i64 x92), .val (.int .i64 x93), .val (.int .i64 x87), .own 8 ([x88, (rdl x94 (IntKind.i64.wrap ((x94.length : Int) - 1)))].length), .val (.bool x95), .val (.int .i64 x96), .val (.int .u64 x97), .rows (x98.map (cInt .u64)), .rows (x99.map TCell.cells), .rows (x100.map TWeight.cells)]) un26 sz51 ze51 ⟨by decide, rfl, by decide⟩ rfl rfl rfl rfl) rfl rfl rfl, fun S hS hD hn => .one 0 hS hD hn rfl rfl (apE (k := 1) sl26 rfl rfl (by simp) (Nat.zero_le _) rfl rfl rfl g110_22) rfl rfl rfl, fun S hS hD hn => .one 0 hS hD hn rfl rfl (faP fa33_0 rfl) rfl rfl rfl, fun S hS hD hn => .one 0 hS hD hn rfl rfl (faP fa28_3 rfl) rfl rfl rfl, fun S hS hD hn => .one0 0 rfl rfl (stB (cs0 := [.val (.int .i64 a0.Space.Tag), .val (.int .i64 a0.Space.Dim), .rows (a0.Space.Parts.map TSpace.cells), .val (.int .i64 (IntKind.i64.wrap (x87 + 1))), .val (.int .i64 (IntKind.i64.wrap (x88 + 1))), .own 4 x89.length, .own 5 x90.length, .own 6 x91.length]) (cs := [.own 4 (x89.length + 1)]) (cs1 := [.val (.int .i64 a0.Space.Tag), .val (.int .i64 a0.Space.Dim), .rows (a0.Space.Parts.map TSpace.cells), .val (.int .i64 (IntKind.i64.wrap (x87 + 1))), .val (.int .i64 (IntKind.i64.wrap (x88 + 1))), .own 4 (x89.length + 1), .own 5 x90.length, .own 6 x91.length]) rfl rfl sz26 rfl ⟨Nat.le_of_ble_eq_true rfl, rfl⟩ rfl) (drawE_other _ _ _ _ rfl) rfl, trivial⟩) _ (by exact ⟨.ptr rfl, .ptr rfl, .ptr rfl, .ptr rfl, .free rfl rfl, .ptr rfl, .free rfl rfl, .free rfl rfl, .free rfl rfl, trivial⟩) (by rfl)
                refine .seq ?_
                obtain ⟨g111_4, h⟩ := h
                refine .room 0 ?_
                refine .room 0 ?_
                refine .reg0 rfl (.op 0 rfl (faP fa33_1 rfl) <| .op 0 rfl (ldP rfl sz30 ag30 rfl) <| .op 0 rfl (mvV rfl) <| .op 11 rfl (bldL (s := 1) (cs := [.val (.int .i64 x51)]) un30 sz3 ze3 ⟨by decide, rfl, by decide⟩ rfl rfl rfl rfl) <| .op 0 rfl (ap1 (l := x90) x51 sl30 rfl rfl rfl (Nat.zero_le _) (elems_own (l := [x51]) rfl rfl) g111_4) <| .op 0 rfl (faP fa33_1 rfl) <| .op 0 rfl (stB (cs0 := [.val (.int .i64 a0.Space.Tag), .val (.int .i64 a0.Space.Dim), .rows (a0.Space.Parts.map TSpace.cells), .val (.int .i64 (IntKind.i64.wrap (x87 + 1))), .val (.int .i64 (IntKind.i64.wrap (x88 + 1))), .own 4 (x89.length + 1), .own 5 x90.length, .own 6 x91.length]) (cs := [.own 5 ((x90 ++ [x51]).length)]) (cs1 := [.val (.int .i64 a0.Space.Tag), .val (.int .i64 a0.Space.Dim), .rows (a0.Space.Parts.map TSpace.cells), .val (.int .i64 (IntKind.i64.wrap (x87 + 1))), .val (.int .i64 (IntKind.i64.wrap (x88 + 1))), .own 4 (x89.length + 1), .own 5 ((x90 ++ [x51]).length), .own 6 x91.length]) rfl rfl sz30 rfl ⟨Nat.le_of_ble_eq_true rfl, rfl⟩ rfl) <| .nil0) ?_
                refine .seq ?_
                obtain ⟨g112_4, h⟩ := h
                refine .room 0 ?_
                refine .room 0 ?_
                refine .reg0 rfl (.op 0 rfl (faP fa33_2 rfl) <| .op 0 rfl (ldP rfl sz31 ag31 rfl) <| .op 0 rfl (mvV rfl) <| .op 13 rfl (bldL (s := 1) (cs := [.val (.bool x101)]) un31 sz4 ze4 ⟨by decide, rfl, by decide⟩ rfl rfl rfl rfl) <| .op 0 rfl (ap1 (l := x91) x101 sl31 rfl rfl rfl (Nat.zero_le _) (elems_own (l := [x101]) rfl rfl) g112_4) <| .op 0 rfl (faP fa33_2 rfl) <| .op 0 rfl (stB (cs0 := [.val (.int .i64 a0.Space.Tag), .val (.int .i64 a0.Space.Dim), .rows (a0.Space.Parts.map TSpace.cells), .val (.int .i64 (IntKind.i64.wrap (x87 + 1))), .val (.int .i64 (IntKind.i64.wrap (x88 + 1))), .own 4 (x89.length + 1), .own 5 ((x90 ++ [x51]).length), .own 6 x91.length]) (cs := [.own 6 ((x91 ++ [x101]).length)]) (cs1 := [.val (.int .i64 a0.Space.Tag), .val (.int .i64 a0.Space.Dim), .rows (a0.Space.Parts.map TSpace.cells), .val (.int .i64 (IntKind.i64.wrap (x87 + 1))), .val (.int .i64 (IntKind.i64.wrap (x88 + 1))), .own 4 (x89.length + 1), .own 5 ((x90 ++ [x51]).length), .own 6 ((x91 ++ [x101]).length)]) rfl rfl sz31 rfl ⟨Nat.le_of_ble_eq_true rfl, rfl⟩ rfl) <| .nil0) ?_
                refine .seq ?_
                refine .reg0 rfl (.op 0 rfl (asV rfl) <| .nil0) ?_
                obtain ⟨g114_10, h⟩ := h
                refine .reg1 (e1 := listEnv [(1, .ptr 0 1 6 0 0), (2, .ptr 1 1 8 0 0), (5, .ptr 2 1 6 0 0), (9, .ptr 3 1 8 0 0), (10, .val (.int .i64 x51)), (11, .ptr 7 1 10 0 0), (12, .val (.bool false))]) (H1 := [⟨6, [(TPds.lit a0)], 0, none⟩, ⟨8, [[.val (.int .i64 0), .val (.int .i64 0), .val (.slice none 0 0), .val (.int .i64 0), .val (.int .i64 0), .val (.slice none 0 0), .val (.slice none 0 0), .val (.slice none 0 0)]], 0, none⟩, ⟨6, [(TWeight.lit t4_2.1)], 0, none⟩, ⟨8, [[.val (.int .i64 a0.Space.Tag), .val (.int .i64 a0.Space.Dim), .rows (a0.Space.Parts.map TSpace.cells), .val (.int .i64 (IntKind.i64.wrap (x87 + 1))), .val (.int .i64 (IntKind.i64.wrap (x88 + 1))), .own 4 (x89.length + 1), .own 5 ((x90 ++ [x51]).length), .own 6 ((x91 ++ [x101]).length)]], 0, none⟩, ⟨10, x89.map TRule.cells ++ [[.val (.int .i64 x92), .val (.int .i64 x93), .val (.int .i64 x87), .own 8 ([x88, (rdl x94 (IntKind.i64.wrap ((x94.length : Int) - 1)))].length), .val (.bool x95), .val (.int .i64 x96), .val (.int .u64 x97), .rows (x98.map (cInt .u64)), .rows (x99.map TCell.cells), .rows (x100.map TWeight.cells)]], 0, none⟩, ⟨1, (x90 ++ [x51]).map (cInt .i64), 0, none⟩, ⟨1, (x91 ++ [x101]).map cBool, 0, none⟩, ⟨10, [[.val (.int .i64 x87), .val (.int .i64 x88), .val (.int .i64 ((rdl a0.Rules x51).Q)), .rows ((cutl x94 0 (IntKind.i64.wrap ((x94.length : Int) - 1))).map (cInt .i64)), .val (.bool t4_2.1.Zero), .val (.int .i64 t4_2.1.Cost), .val (.int .u64 t4_2.1.Facts.Gen), .rows (t4_2.1.Facts.Rows.map (cInt .u64)), .rows (t4_2.1.Cells.map TCell.cells), .rows (t4_2.1.Parts.map TWeight.cells)]], 0, none⟩, ⟨1, [x88, (rdl x94 (IntKind.i64.wrap ((x94.length : Int) - 1)))].map (cInt .i64), 0, none⟩, ⟨10, [[.val (.int .i64 x92), .val (.int .i64 x93), .val (.int .i64 x87), .own 8 ([x88, (rdl x94 (IntKind.i64.wrap ((x94.length : Int) - 1)))].length), .val (.bool x95), .val (.int .i64 x96), .val (.int .u64 x97), .rows (x98.map (cInt .u64)), .rows (x99.map TCell.cells), .rows (x100.map TWeight.cells)]], 0, none⟩, Blk.hole, ⟨1, [x51].map (cInt .i64), 0, none⟩, Blk.hole, ⟨1, [x101].map cBool, 0, none⟩, Blk.hole]) rfl ?_ ?_
                · exact .drawM [(12, 164, .agg [.val (.int .i64 x87), .val (.int .i64 x88), .val (.int .i64 ((rdl a0.Rules x51).Q)), .rows ((cutl x94 0 (IntKind.i64.wrap ((x94.length : Int) - 1))).map (cInt .i64)), .val (.bool t4_2.1.Zero), .val (.int .i64 t4_2.1.Cost), .val (.int .u64 t4_2.1.Facts.Gen), .rows (t4_2.1.Facts.Rows.map (cInt .u64)), .rows (t4_2.1.Cells.map TCell.cells), .rows (t4_2.1.Parts.map TWeight.cells)]), (11, 163, .agg (TWeight.lit t4_2.1)), (10, 162, .rows ((cutl x94 0 (IntKind.i64.wrap ((x94.length : Int) - 1))).map (cInt .i64))), (9, 161, .val (.int .i64 (IntKind.i64.wrap ((x94.length : Int) - 1)))), (8, 160, .val (.int .i64 (x94.length : Int))), (7, 159, .rows (x94.map (cInt .i64))), (6, 158, .ptr 7 1 10 0 3), (5, 157, .rows (x94.map (cInt .i64))), (4, 156, .ptr 7 1 10 0 3), (3, 155, .val (.int .i64 ((rdl a0.Rules x51).Q))), (2, 154, .ptr 7 1 10 0 2), (1, 153, .val (.int .i64 x88)), (0, 152, .val (.int .i64 x87))] [(13, 7, ⟨10, [[.val (.int .i64 x87), .val (.int .i64 x88), .val (.int .i64 ((rdl a0.Rules x51).Q)), .rows ((cutl x94 0 (IntKind.i64.wrap ((x94.length : Int) - 1))).map (cInt .i64)), .val (.bool t4_2.1.Zero), .val (.int .i64 t4_2.1.Cost), .val (.int .u64 t4_2.1.Facts.Gen), .rows (t4_2.1.Facts.Rows.map (cInt .u64)), .rows (t4_2.1.Cells.map TCell.cells), .rows (t4_2.1.Parts.map TWeight.cells)]], 0, none⟩)] [[], [], [], [2], [], [4], [], [6], [7, 6], [8, 7, 6], [5, 4, 9, 8, 7, 6], [], [0, 1, 3, 2, 10, 5, 4, 9, 8, 7, 6, 11], [12, 0, 1, 3, 2, 10, 5, 4, 9, 8, 7, 6, 11]] (by rfl) (by rfl) (by rfl) (by exact ⟨fun S hS hD hn => .one 0 hS hD hn rfl rfl (mvV rfl) rfl rfl rfl, fun S hS hD hn => .one 0 hS hD hn rfl rfl (mvV rfl) rfl rfl rfl, fun S hS hD hn => .one 0 hS hD hn rfl rfl (faP fa51_2 rfl) rfl rfl rfl, fun S hS hD hn => .one 0 hS hD hn rfl rfl (ldP rfl sz3 ag3 rfl) rfl rfl rfl, fun S hS hD hn => .one 0 hS hD hn rfl rfl (faP fa51_3 rfl) rfl rfl rfl, fun S hS hD hn => .one 0 hS hD hn rfl rfl (ldP rfl sz30 ag30 rfl) rfl rfl rfl, fun S hS hD hn => .one 0 hS hD hn rfl rfl (faP fa51_3 rfl) rfl rfl rfl, fun S hS hD hn => .one 0 hS hD hn rfl rfl (ldP rfl sz30 ag30 rfl) rfl rfl rfl, fun S hS hD hn => .one 0 hS hD hn rfl rfl (lnR (l := x94) sl30 rfl) rfl rfl rfl, fun S hS hD hn => .one 0 hS hD hn rfl rfl (subI rfl rfl) rfl rfl rfl, fun S hS hD hn => .one 0 hS hD hn rfl rfl (slR (l := x94) (h := Int.toNat (IntKind.i64.wrap ((x94.length : Int) - 1))) (v := 0) sl30 rfl rfl (bound_some rfl g114_10.j0) (Nat.zero_le _) (cut_le2 g114_10)) rfl rfl rfl, fun S hS hD hn => .one 0 hS hD hn rfl rfl (ldG rfl sz49 ag49 rfl) rfl rfl rfl, fun S hS hD hn => .one 0 hS hD hn rfl rfl (bldS (cs := [.val (.int .i64 x87), .val (.int .i64 x88), .val (.int .i64 ((rdl a0.Rules x51).Q)), .rows ((cutl x94 0 (IntKind.i64.wrap ((x94.length : Int) - 1))).map (cInt .i64)), .val (.bool t4_2.1.Zero), .val (.int .i64 t4_2.1.Cost), .val (.int .u64 t4_2.1.Facts.Gen), .rows (t4_2.1.Facts.Rows.map (cInt .u64)), .rows (t4_2.1.Cells.map TCell.cells), .rows (t4_2.1.Parts.map TWeight.cells)]) ze51 pl51 rfl rfl) rfl rfl rfl, fun S hS hD hn => .one0 0 rfl rfl (stB (cs0 := [.val (.int .i64 x92), .val (.int .i64 x93), .val (.int .i64 ((rdl a0.Rules x51).Q)), .rows (x94.map (cInt .i64)), .val (.bool x95), .val (.int .i64 x96), .val (.int .u64 x97), .rows (x98.map (cInt .u64)), .rows (x99.map TCell.cells), .rows (x100.map TWeight.cells)]) (cs := [.val (.int .i64 x87), .val (.int .i64 x88), .val (.int .i64 ((rdl a0.Rules x51).Q)), .rows ((cutl x94 0 (IntKind.i64.wrap ((x94.length : Int) - 1))).map (cInt .i64)), .val (.bool t4_2.1.Zero), .val (.int .i64 t4_2.1.Cost), .val (.int .u64 t4_2.1.Facts.Gen), .rows (t4_2.1.Facts.Rows.map (cInt .u64)), .rows (t4_2.1.Cells.map TCell.cells), .rows (t4_2.1.Parts.map TWeight.cells)]) (cs1 := [.val (.int .i64 x87), .val (.int .i64 x88), .val (.int .i64 ((rdl a0.Rules x51).Q)), .rows ((cutl x94 0 (IntKind.i64.wrap ((x94.length : Int) - 1))).map (cInt .i64)), .val (.bool t4_2.1.Zero), .val (.int .i64 t4_2.1.Cost), .val (.int .u64 t4_2.1.Facts.Gen), .rows (t4_2.1.Facts.Rows.map (cInt .u64)), .rows (t4_2.1.Cells.map TCell.cells), .rows (t4_2.1.Parts.map TWeight.cells)]) rfl rfl sz51 rfl ⟨Nat.le_of_ble_eq_true rfl, rfl⟩ rfl) (drawE_other _ _ _ _ rfl) rfl, trivial⟩) _ (by exact ⟨.ptr rfl, .ptr rfl, .ptr rfl, .ptr rfl, .free rfl rfl, .ptr rfl, .free rfl rfl, trivial⟩) (by rfl)
                refine .inBlock ?_
                refine .keepL [0, 1, 2, 3, 4, 5, 6, 7] [(1, .ptr 0 1 6 0 0), (2, .ptr 1 1 8 0 0), (5, .ptr 2 1 6 0 0), (9, .ptr 3 1 8 0 0), (10, .val (.int .i64 x51)), (11, .ptr 7 1 10 0 0), (12, .val (.bool false))] [⟨6, [(TPds.lit a0)], 0, none⟩, ⟨8, [[.val (.int .i64 0), .val (.int .i64 0), .val (.slice none 0 0), .val (.int .i64 0), .val (.int .i64 0), .val (.slice none 0 0), .val (.slice none 0 0), .val (.slice none 0 0)]], 0, none⟩, ⟨6, [(TWeight.lit t4_2.1)], 0, none⟩, ⟨8, [[.val (.int .i64 a0.Space.Tag), .val (.int .i64 a0.Space.Dim), .rows (a0.Space.Parts.map TSpace.cells), .val (.int .i64 (IntKind.i64.wrap (x87 + 1))), .val (.int .i64 (IntKind.i64.wrap (x88 + 1))), .own 4 ((x89 ++ [(TRule.mk x92 x93 x87 [x88, (rdl x94 (IntKind.i64.wrap ((x94.length : Int) - 1)))] (TWeight.mk x95 x96 (TFacts.mk x97 x98) x99 x100))]).length), .own 5 ((x90 ++ [x51]).length), .own 6 ((x91 ++ [x101]).length)]], 0, none⟩, ⟨10, (x89 ++ [(TRule.mk x92 x93 x87 [x88, (rdl x94 (IntKind.i64.wrap ((x94.length : Int) - 1)))] (TWeight.mk x95 x96 (TFacts.mk x97 x98) x99 x100))]).map TRule.cells, 0, none⟩, ⟨1, (x90 ++ [x51]).map (cInt .i64), 0, none⟩, ⟨1, (x91 ++ [x101]).map cBool, 0, none⟩, ⟨10, [[.val (.int .i64 x87), .val (.int .i64 x88), .val (.int .i64 ((rdl a0.Rules x51).Q)), .rows ((cutl x94 0 (IntKind.i64.wrap ((x94.length : Int) - 1))).map (cInt .i64)), .val (.bool t4_2.1.Zero), .val (.int .i64 t4_2.1.Cost), .val (.int .u64 t4_2.1.Facts.Gen), .rows (t4_2.1.Facts.Rows.map (cInt .u64)), .rows (t4_2.1.Cells.map TCell.cells), .rows (t4_2.1.Parts.map TWeight.cells)]], 0, none⟩] (by decide) (by decide) ⟨.ptr rfl, .ptr rfl, .ptr rfl, .ptr rfl, .free rfl rfl, .ptr rfl, .free rfl rfl, trivial⟩ ⟨⟨_, rfl, bcBox (all2_free rfl)⟩, ⟨_, rfl, bcBox (all2_free rfl)⟩, ⟨_, rfl, bcBox (all2_free rfl)⟩, ⟨_, rfl, bcBox (.cons (.free rfl rfl) <| .cons (.free rfl rfl) <| .cons (.free rfl rfl) <| .cons (.free rfl rfl) <| .cons (.free rfl rfl) <| .cons (cOwnE rfl (by simp)) <| .cons (.own rfl) <| .cons (.own rfl) <| .nil)⟩, ⟨_, rfl, bcApp (l := x89) (m := [(TRule.mk x92 x93 x87 [x88, (rdl x94 (IntKind.i64.wrap ((x94.length : Int) - 1)))] (TWeight.mk x95 x96 (TFacts.mk x97 x98) x99 x100))]) sl26 (Nat.le_refl _) (.cons ((.cons (.free rfl rfl) <| .cons (.free rfl rfl) <| .cons (.free rfl rfl) <| .cons (cFixO (l := [x88, (rdl x94 (IntKind.i64.wrap ((x94.length : Int) - 1)))]) sl30 rfl rfl rfl rfl) <| .cons (.free rfl rfl) <| .cons (.free rfl rfl) <| .cons (.free rfl rfl) <| .cons (.free rfl rfl) <| .cons (.free rfl rfl) <| .cons (.free rfl rfl) <| .nil)) <| .nil)⟩, ⟨_, rfl, bcRow (l := (x90 ++ [x51])) sl30 (Nat.le_refl _) rfl⟩, ⟨_, rfl, bcRow (l := (x91 ++ [x101])) sl31 (Nat.le_refl _) rfl⟩, ⟨_, rfl, bcBox (all2_free rfl)⟩, trivial⟩ ?_
                exact hn3 _ h
              · rw [if_neg c29] at h
                refine .condF rfl (decide_eq_false c29) ?_
                refine .exit rfl ?_
                refine .keepL [0, 1, 2, 3, 4, 5, 6, 7] [(1, .ptr 0 1 6 0 0), (2, .ptr 1 1 8 0 0), (5, .ptr 2 1 6 0 0), (9, .ptr 3 1 8 0 0), (10, .val (.int .i64 x51)), (11, .ptr 7 1 10 0 0), (12, .val (.bool x101))] [⟨6, [(TPds.lit a0)], 0, none⟩, ⟨8, [[.val (.int .i64 0), .val (.int .i64 0), .val (.slice none 0 0), .val (.int .i64 0), .val (.int .i64 0), .val (.slice none 0 0), .val (.slice none 0 0), .val (.slice none 0 0)]], 0, none⟩, ⟨6, [(TWeight.lit t4_2.1)], 0, none⟩, ⟨8, [[.val (.int .i64 a0.Space.Tag), .val (.int .i64 a0.Space.Dim), .rows (a0.Space.Parts.map TSpace.cells), .val (.int .i64 x87), .val (.int .i64 x88), .own 4 x89.length, .own 5 x90.length, .own 6 x91.length]], 0, none⟩, ⟨10, x89.map TRule.cells, 0, none⟩, ⟨1, x90.map (cInt .i64), 0, none⟩, ⟨1, x91.map cBool, 0, none⟩, ⟨10, [[.val (.int .i64 x92), .val (.int .i64 x93), .val (.int .i64 ((rdl a0.Rules x51).Q)), .rows (x94.map (cInt .i64)), .val (.bool x95), .val (.int .i64 x96), .val (.int .u64 x97), .rows (x98.map (cInt .u64)), .rows (x99.map TCell.cells), .rows (x100.map TWeight.cells)]], 0, none⟩] (by decide) (by decide) ⟨.ptr rfl, .ptr rfl, .ptr rfl, .ptr rfl, .free rfl rfl, .ptr rfl, .free rfl rfl, trivial⟩ ⟨⟨_, rfl, bcBox (all2_free rfl)⟩, ⟨_, rfl, bcBox (all2_free rfl)⟩, ⟨_, rfl, bcBox (all2_free rfl)⟩, ⟨_, rfl, bcBox (.cons (.free rfl rfl) <| .cons (.free rfl rfl) <| .cons (.free rfl rfl) <| .cons (.free rfl rfl) <| .cons (.free rfl rfl) <| .cons (.own rfl) <| .cons (.own rfl) <| .cons (.own rfl) <| .nil)⟩, ⟨_, rfl, bcRow (l := x89) sl26 (Nat.le_refl _) rfl⟩, ⟨_, rfl, bcRow (l := x90) sl30 (Nat.le_refl _) rfl⟩, ⟨_, rfl, bcRow (l := x91) sl31 (Nat.le_refl _) rfl⟩, ⟨_, rfl, bcBox (all2_free rfl)⟩, trivial⟩ ?_
                exact hx3 _ h
          · rw [if_neg c26] at h
            refine .condF rfl (decide_eq_false c26) ?_
            refine .exit rfl ?_
            refine .keepL [1, 3, 4, 5, 6] [(2, .ptr 0 1 8 0 0), (9, .ptr 1 1 8 0 0)] [⟨8, [[.val (.int .i64 0), .val (.int .i64 0), .val (.slice none 0 0), .val (.int .i64 0), .val (.int .i64 0), .val (.slice none 0 0), .val (.slice none 0 0), .val (.slice none 0 0)]], 0, none⟩, ⟨8, [[.val (.int .i64 a0.Space.Tag), .val (.int .i64 a0.Space.Dim), .rows (a0.Space.Parts.map TSpace.cells), .val (.int .i64 x46), .val (.int .i64 x47), .own 2 x48.length, .own 3 x49.length, .own 4 x50.length]], 0, none⟩, ⟨10, x48.map TRule.cells, 0, none⟩, ⟨1, x49.map (cInt .i64), 0, none⟩, ⟨1, x50.map cBool, 0, none⟩] (by decide) (by decide) ⟨.ptr rfl, .ptr rfl, trivial⟩ ⟨⟨_, rfl, bcBox (all2_free rfl)⟩, ⟨_, rfl, bcBox (.cons (.free rfl rfl) <| .cons (.free rfl rfl) <| .cons (.free rfl rfl) <| .cons (.free rfl rfl) <| .cons (.free rfl rfl) <| .cons (.own rfl) <| .cons (.own rfl) <| .cons (.own rfl) <| .nil)⟩, ⟨_, rfl, bcRow (l := x48) sl26 (Nat.le_refl _) rfl⟩, ⟨_, rfl, bcRow (l := x49) sl30 (Nat.le_refl _) rfl⟩, ⟨_, rfl, bcRow (l := x50) sl31 (Nat.le_refl _) rfl⟩, trivial⟩ ?_
            exact hx2 _ h
    · rintro r_ rfl
      exact h
    · rintro ⟨x3, x4⟩ z1 h hn1 hx1 hr1
      dsimp only [r11_Short.b1] at h
      refine .seq ?_
      refine .seq ?_
      refine .reg0 rfl (.op 0 rfl (mvV rfl) <| .op 0 rfl (faP fa28_3 rfl) <| .op 0 rfl (ldP rfl sz26 ag26 rfl) <| .op 0 rfl (lnR (l := a0.Rules) sl26 rfl) <| .op 0 rfl (ltI rfl rfl) <| .nil0) ?_
      by_cases c12 : x4 < (a0.Rules.length : Int)
      · rw [if_pos c12] at h
        refine .condT rfl (decide_eq_true c12) ?_
        refine .skip ?_
        refine .seq ?_
        refine .block ?_
        refine .seq ?_
        obtain ⟨g27_3, h⟩ := h
        refine .reg0 rfl (.op 0 rfl (faP fa28_3 rfl) <| .op 0 rfl (ldP rfl sz26 ag26 rfl) <| .op 0 rfl (mvV rfl) <| .op 0 rfl (ixR (l := a0.Rules) (lit := TRule.lit) sl26 rfl rfl (fun _ => rfl) g27_3.1 g27_3.2) <| .op 0 rfl (faC fa51_3 rfl) <| .op 0 rfl (ldC rfl sz30 ag30 rfl) <| .op 0 rfl (lnR (l := (rdl a0.Rules x4).W) sl30 rfl) <| .op 0 rfl (gtI rfl rfl) <| .nil0) ?_
        refine .consJ (fun s_ => r11_Short.j1 x4 s_ z1) (fun x9 => listEnv [(1, .ptr 0 1 6 0 0), (2, .ptr 1 1 8 0 0), (5, .ptr 2 1 6 0 0), (7, .val (.int .i64 x9)), (8, .val (.int .i64 x4))]) (fun x9 => [⟨6, [(TPds.lit a0)], 0, none⟩, ⟨8, [[.val (.int .i64 0), .val (.int .i64 0), .val (.slice none 0 0), .val (.int .i64 0), .val (.int .i64 0), .val (.slice none 0 0), .val (.slice none 0 0), .val (.slice none 0 0)]], 0, none⟩, ⟨6, [(TWeight.lit t4_2.1)], 0, none⟩]) ?_ fun hJ1 => ?_
        · rintro x9 h
          unfold r11_Short.j1 at h
          try dsimp only at h
          refine .inBlock ?_
          refine .reg0 rfl (.op 0 rfl (mvV rfl) <| .op 0 rfl (addI rfl rfl) <| .op 0 rfl (asV rfl) <| .nil0) ?_
          refine .keepL [0, 1, 2] [(1, .ptr 0 1 6 0 0), (2, .ptr 1 1 8 0 0), (5, .ptr 2 1 6 0 0), (7, .val (.int .i64 x9)), (8, .val (.int .i64 (IntKind.i64.wrap (x4 + 1))))] [⟨6, [(TPds.lit a0)], 0, none⟩, ⟨8, [[.val (.int .i64 0), .val (.int .i64 0), .val (.slice none 0 0), .val (.int .i64 0), .val (.int .i64 0), .val (.slice none 0 0), .val (.slice none 0 0), .val (.slice none 0 0)]], 0, none⟩, ⟨6, [(TWeight.lit t4_2.1)], 0, none⟩] (by decide) (by decide) ⟨.ptr rfl, .ptr rfl, .ptr rfl, .free rfl rfl, .free rfl rfl, trivial⟩ ⟨⟨_, rfl, bcBox (all2_free rfl)⟩, ⟨_, rfl, bcBox (all2_free rfl)⟩, ⟨_, rfl, bcBox (all2_free rfl)⟩, trivial⟩ ?_
          exact hn1 _ h
        · by_cases c16 : ((rdl a0.Rules x4).W.length : Int) > 2
          · rw [if_pos c16] at h
            refine .condT rfl (decide_eq_true c16) ?_
            obtain ⟨g30_4, h⟩ := h
            refine .reg0 rfl (.op 0 rfl (mvV rfl) <| .op 0 rfl (faP fa28_3 rfl) <| .op 0 rfl (ldP rfl sz26 ag26 rfl) <| .op 0 rfl (mvV rfl) <| .op 0 rfl (ixR (l := a0.Rules) (lit := TRule.lit) sl26 rfl rfl (fun _ => rfl) g30_4.1 g30_4.2) <| .op 0 rfl (faC fa51_3 rfl) <| .op 0 rfl (ldC rfl sz30 ag30 rfl) <| .op 0 rfl (lnR (l := (rdl a0.Rules x4).W) sl30 rfl) <| .op 0 rfl (addI rfl rfl) <| .op 0 rfl (subI rfl rfl) <| .op 0 rfl (asV rfl) <| .nil0) ?_
            refine .keepL [0, 1, 2] [(1, .ptr 0 1 6 0 0), (2, .ptr 1 1 8 0 0), (5, .ptr 2 1 6 0 0), (7, .val (.int .i64 (IntKind.i64.wrap ((IntKind.i64.wrap (x3 + ((rdl a0.Rules x4).W.length : Int))) - 2)))), (8, .val (.int .i64 x4))] [⟨6, [(TPds.lit a0)], 0, none⟩, ⟨8, [[.val (.int .i64 0), .val (.int .i64 0), .val (.slice none 0 0), .val (.int .i64 0), .val (.int .i64 0), .val (.slice none 0 0), .val (.slice none 0 0), .val (.slice none 0 0)]], 0, none⟩, ⟨6, [(TWeight.lit t4_2.1)], 0, none⟩] (by decide) (by decide) ⟨.ptr rfl, .ptr rfl, .ptr rfl, .free rfl rfl, .free rfl rfl, trivial⟩ ⟨⟨_, rfl, bcBox (all2_free rfl)⟩, ⟨_, rfl, bcBox (all2_free rfl)⟩, ⟨_, rfl, bcBox (all2_free rfl)⟩, trivial⟩ ?_
            exact hJ1 _ h
          · rw [if_neg c16] at h
            refine .condF rfl (decide_eq_false c16) ?_
            refine .skip ?_
            refine .keepL [0, 1, 2] [(1, .ptr 0 1 6 0 0), (2, .ptr 1 1 8 0 0), (5, .ptr 2 1 6 0 0), (7, .val (.int .i64 x3)), (8, .val (.int .i64 x4))] [⟨6, [(TPds.lit a0)], 0, none⟩, ⟨8, [[.val (.int .i64 0), .val (.int .i64 0), .val (.slice none 0 0), .val (.int .i64 0), .val (.int .i64 0), .val (.slice none 0 0), .val (.slice none 0 0), .val (.slice none 0 0)]], 0, none⟩, ⟨6, [(TWeight.lit t4_2.1)], 0, none⟩] (by decide) (by decide) ⟨.ptr rfl, .ptr rfl, .ptr rfl, .free rfl rfl, .free rfl rfl, trivial⟩ ⟨⟨_, rfl, bcBox (all2_free rfl)⟩, ⟨_, rfl, bcBox (all2_free rfl)⟩, ⟨_, rfl, bcBox (all2_free rfl)⟩, trivial⟩ ?_
            exact hJ1 _ h
      · rw [if_neg c12] at h
        refine .condF rfl (decide_eq_false c12) ?_
        refine .exit rfl ?_
        refine .keepL [0, 1, 2] [(1, .ptr 0 1 6 0 0), (2, .ptr 1 1 8 0 0), (5, .ptr 2 1 6 0 0), (7, .val (.int .i64 x3))] [⟨6, [(TPds.lit a0)], 0, none⟩, ⟨8, [[.val (.int .i64 0), .val (.int .i64 0), .val (.slice none 0 0), .val (.int .i64 0), .val (.int .i64 0), .val (.slice none 0 0), .val (.slice none 0 0), .val (.slice none 0 0)]], 0, none⟩, ⟨6, [(TWeight.lit t4_2.1)], 0, none⟩] (by decide) (by decide) ⟨.ptr rfl, .ptr rfl, .ptr rfl, .free rfl rfl, trivial⟩ ⟨⟨_, rfl, bcBox (all2_free rfl)⟩, ⟨_, rfl, bcBox (all2_free rfl)⟩, ⟨_, rfl, bcBox (all2_free rfl)⟩, trivial⟩ ?_
        exact hx1 _ h
  · rw [if_neg c1] at h
    refine .condT rfl (bne_iff_ne.mpr c1) ?_
    refine .seq ?_
    refine .reg0 rfl (.op 0 rfl (bldS (cs := [.val (.int .i64 0), .val (.int .i64 0), .val (.slice none 0 0), .val (.int .i64 0), .val (.int .i64 0), .val (.slice none 0 0), .val (.slice none 0 0), .val (.slice none 0 0)]) ze33 pl33 rfl rfl) <| .op 0 rfl (mvV rfl) <| .op 0 rfl (stB (cs0 := [.val (.int .i64 0), .val (.int .i64 0), .val (.slice none 0 0), .val (.int .i64 0), .val (.int .i64 0), .val (.slice none 0 0), .val (.slice none 0 0), .val (.slice none 0 0)]) (cs := [.val (.int .i64 0), .val (.int .i64 0), .val (.slice none 0 0), .val (.int .i64 0), .val (.int .i64 0), .val (.slice none 0 0), .val (.slice none 0 0), .val (.slice none 0 0)]) (cs1 := [.val (.int .i64 0), .val (.int .i64 0), .val (.slice none 0 0), .val (.int .i64 0), .val (.int .i64 0), .val (.slice none 0 0), .val (.slice none 0 0), .val (.slice none 0 0)]) rfl rfl sz33 rfl ⟨Nat.le_of_ble_eq_true rfl, rfl⟩ rfl) <| .op 0 rfl (asV rfl) <| .nil0) ?_
    replace h := h.symm
    subst h
    refine .keepL [] [(2, .cptr [.val (.int .i64 0), .val (.int .i64 0), .rows (([] : List TSpace).map TSpace.cells), .val (.int .i64 0), .val (.int .i64 0), .rows (([] : List TRule).map TRule.cells), .rows (([] : List Int).map (cInt .i64)), .rows (([] : List Bool).map cBool)] 0), (3, .val (.int .i64 t2_1))] [] (by decide) (by decide) ⟨cFixP rfl rfl (.cons (.free rfl rfl) <| .cons (.free rfl rfl) <| .cons (.nil) <| .cons (.free rfl rfl) <| .cons (.free rfl rfl) <| .cons (.nil) <| .cons (.nil) <| .cons (.nil) <| .nil), .free rfl rfl, trivial⟩ trivial ?_
    exact .ret rfl
def r05_SameSpace.b1 (self41 : TSpace → TSpace → Bool → Prop) (a0 : TSpace) (a1 : TSpace) : Int → Rnd Int Unit Bool → Prop := fun x1 z1 => if x1 < (a0.Parts.length : Int) then (((InR x1 a0.Parts.length)) ∧ ((InR x1 a1.Parts.length)) ∧ ∃ t14_10 : Bool, (self41 (rdl a0.Parts x1) (rdl a1.Parts x1) t14_10) ∧ if t14_10 = true then (z1 = .next (IntKind.i64.wrap (x1 + 1))) else (z1 = .ret false)) else (z1 = .exit ())
def r05_SameSpace.step (self41 : TSpace → TSpace → Bool → Prop) (a0 : TSpace) (a1 : TSpace) (r : Bool) : Prop :=
  if ((!(a0.Tag == a1.Tag)) || ((!(a0.Dim == a1.Dim)) || ((a0.Parts.length : Int) != (a1.Parts.length : Int)))) = true then (r = false) else (∃ o1 : Fin Unit Bool, Loop (r05_SameSpace.b1 self41 a0 a1) 0 o1 ∧ o1.on (fun _ => r = true) (fun r_ => r = r_))
theorem r05_SameSpace.stepD {self41 : TSpace → TSpace → Bool → Prop} {a0 : TSpace} {a1 : TSpace} (hs41 : ∀ z0_ z1_ r_, self41 z0_ z1_ r_ → D Try.prog X (.callH 41 [.agg (TSpace.lit z0_), .agg (TSpace.lit z1_)] [] (.val (.bool r_)) [])) {r : Bool} (h : r05_SameSpace.step self41 a0 a1 r) : D Try.prog X (.callH 41 [.agg (TSpace.lit a0), .agg (TSpace.lit a1)] [] (.val (.bool r)) []) := by
  unfold r05_SameSpace.step at h
  refine .enter 46 0 fn41 rfl rfl rfl ?_
  refine .seq ?_
  refine .room 0 ?_
  refine .room 0 ?_
  refine .reg0 rfl (.op 0 rfl (bxP (s := 3) (cs := (TSpace.lit a0)) rfl ⟨rfl, by decide, rfl⟩ rfl) <| .op 1 rfl (bxP (s := 3) (cs := (TSpace.lit a1)) rfl ⟨rfl, by decide, rfl⟩ rfl) <| .op 0 rfl (asV rfl) <| .nil0) ?_
  refine .seq ?_
  refine .seq ?_
  refine .reg0 (e1 := listEnv [(2, .ptr 0 1 3 0 0), (3, .ptr 1 1 3 0 0), (26, .val (.bool ((!(a0.Tag == a1.Tag)) || ((!(a0.Dim == a1.Dim)) || ((a0.Parts.length : Int) != (a1.Parts.length : Int))))))]) (H1 := [⟨3, [(TSpace.lit a0)], 0, none⟩, ⟨3, [(TSpace.lit a1)], 0, none⟩]) rfl ?_ ?_
  · by_cases c1 : a0.Tag = a1.Tag
    · by_cases c2 : a0.Dim = a1.Dim
      · exact (.op 0 rfl (faP fa25_0 rfl) <| .op 0 rfl (ldP rfl sz22 ag22 rfl) <| .op 0 rfl (faP fa25_0 rfl) <| .op 0 rfl (ldP rfl sz22 ag22 rfl) <| .op 0 rfl (neI rfl rfl) <| .op 0 rfl (mvV rfl) <| .op 0 (gT rfl rfl rfl (bne_eq_false_iff_eq.mpr c1)) (faP fa25_1 rfl) <| .op 0 (gT rfl rfl rfl (bne_eq_false_iff_eq.mpr c1)) (ldP rfl sz3 ag3 rfl) <| .op 0 (gT rfl rfl rfl (bne_eq_false_iff_eq.mpr c1)) (faP fa25_1 rfl) <| .op 0 (gT rfl rfl rfl (bne_eq_false_iff_eq.mpr c1)) (ldP rfl sz3 ag3 rfl) <| .op 0 (gT rfl rfl rfl (bne_eq_false_iff_eq.mpr c1)) (neI rfl rfl) <| .op 0 rfl (pkFV rfl (bne_eq_false_iff_eq.mpr c1) rfl) <| .op 0 rfl (mvV rfl) <| .op 0 (gT rfl rfl rfl (bne_eq_false_iff_eq.mpr c2)) (faP fa25_2 rfl) <| .op 0 (gT rfl rfl rfl (bne_eq_false_iff_eq.mpr c2)) (ldP rfl sz23 ag23 rfl) <| .op 0 (gT rfl rfl rfl (bne_eq_false_iff_eq.mpr c2)) (lnR (l := a0.Parts) sl23 rfl) <| .op 0 (gT rfl rfl rfl (bne_eq_false_iff_eq.mpr c2)) (faP fa25_2 rfl) <| .op 0 (gT rfl rfl rfl (bne_eq_false_iff_eq.mpr c2)) (ldP rfl sz23 ag23 rfl) <| .op 0 (gT rfl rfl rfl (bne_eq_false_iff_eq.mpr c2)) (lnR (l := a1.Parts) sl23 rfl) <| .op 0 (gT rfl rfl rfl (bne_eq_false_iff_eq.mpr c2)) (neI rfl rfl) <| .op 0 rfl (pkFV rfl (bne_eq_false_iff_eq.mpr c2) rfl) <| .nilL _ ⟨.ptr rfl, .ptr rfl, cB rfl (mOrF (bnotF (beq_iff_eq.mpr c1)) (mOrF (bnotF (beq_iff_eq.mpr c2)) rfl)), trivial⟩)
      · exact (.op 0 rfl (faP fa25_0 rfl) <| .op 0 rfl (ldP rfl sz22 ag22 rfl) <| .op 0 rfl (faP fa25_0 rfl) <| .op 0 rfl (ldP rfl sz22 ag22 rfl) <| .op 0 rfl (neI rfl rfl) <| .op 0 rfl (mvV rfl) <| .op 0 (gT rfl rfl rfl (bne_eq_false_iff_eq.mpr c1)) (faP fa25_1 rfl) <| .op 0 (gT rfl rfl rfl (bne_eq_false_iff_eq.mpr c1)) (ldP rfl sz3 ag3 rfl) <| .op 0 (gT rfl rfl rfl (bne_eq_false_iff_eq.mpr c1)) (faP fa25_1 rfl) <| .op 0 (gT rfl rfl rfl (bne_eq_false_iff_eq.mpr c1)) (ldP rfl sz3 ag3 rfl) <| .op 0 (gT rfl rfl rfl (bne_eq_false_iff_eq.mpr c1)) (neI rfl rfl) <| .op 0 rfl (pkFV rfl (bne_eq_false_iff_eq.mpr c1) rfl) <| .op 0 rfl (mvV rfl) <| .no (gF rfl rfl rfl (bne_iff_ne.mpr c2)) <| .no (gF rfl rfl rfl (bne_iff_ne.mpr c2)) <| .no (gF rfl rfl rfl (bne_iff_ne.mpr c2)) <| .no (gF rfl rfl rfl (bne_iff_ne.mpr c2)) <| .no (gF rfl rfl rfl (bne_iff_ne.mpr c2)) <| .no (gF rfl rfl rfl (bne_iff_ne.mpr c2)) <| .no (gF rfl rfl rfl (bne_iff_ne.mpr c2)) <| .op 0 rfl (pkTV rfl (bne_iff_ne.mpr c2) rfl) <| .nilL _ ⟨.ptr rfl, .ptr rfl, cB rfl (mOrF (bnotF (beq_iff_eq.mpr c1)) (mOrT (bnotT (beq_eq_false_iff_ne.mpr c2)))), trivial⟩)
    · exact (.op 0 rfl (faP fa25_0 rfl) <| .op 0 rfl (ldP rfl sz22 ag22 rfl) <| .op 0 rfl (faP fa25_0 rfl) <| .op 0 rfl (ldP rfl sz22 ag22 rfl) <| .op 0 rfl (neI rfl rfl) <| .op 0 rfl (mvV rfl) <| .no (gF rfl rfl rfl (bne_iff_ne.mpr c1)) <| .no (gF rfl rfl rfl (bne_iff_ne.mpr c1)) <| .no (gF rfl rfl rfl (bne_iff_ne.mpr c1)) <| .no (gF rfl rfl rfl (bne_iff_ne.mpr c1)) <| .no (gF rfl rfl rfl (bne_iff_ne.mpr c1)) <| .op 0 rfl (pkTV rfl (bne_iff_ne.mpr c1) rfl) <| .op 0 rfl (mvV rfl) <| .no (gF rfl rfl rfl rfl) <| .no (gF rfl rfl rfl rfl) <| .no (gF rfl rfl rfl rfl) <| .no (gF rfl rfl rfl rfl) <| .no (gF rfl rfl rfl rfl) <| .no (gF rfl rfl rfl rfl) <| .no (gF rfl rfl rfl rfl) <| .op 0 rfl (pkTV rfl rfl rfl) <| .nilL _ ⟨.ptr rfl, .ptr rfl, cB rfl (mOrT (bnotT (beq_eq_false_iff_ne.mpr c1))), trivial⟩)
  by_cases c3 : ((!(a0.Tag == a1.Tag)) || ((!(a0.Dim == a1.Dim)) || ((a0.Parts.length : Int) != (a1.Parts.length : Int)))) = true
  · rw [if_pos c3] at h
    refine .condT rfl c3 ?_
    refine .seq ?_
    refine .reg0 rfl (.op 0 rfl (asV rfl) <| .nil0) ?_
    replace h := h.symm
    subst h
    refine .keepL [] [(4, .val (.bool false))] [] (by decide) (by decide) ⟨.free rfl rfl, trivial⟩ trivial ?_
    exact .ret rfl
  · rw [if_neg c3] at h
    refine .condF rfl (Bool.eq_false_iff.mpr c3) ?_
    refine .skip ?_
    refine .seq ?_
    refine .seq ?_
    refine .reg0 rfl (.op 0 rfl (asV rfl) <| .nil0) ?_
    refine .block ?_
    refine .keepL [0, 1] [(2, .ptr 0 1 3 0 0), (3, .ptr 1 1 3 0 0), (5, .val (.int .i64 0))] [⟨3, [(TSpace.lit a0)], 0, none⟩, ⟨3, [(TSpace.lit a1)], 0, none⟩] (by decide) (by decide) ⟨.ptr rfl, .ptr rfl, .free rfl rfl, trivial⟩ ⟨⟨_, rfl, bcBox (all2_free rfl)⟩, ⟨_, rfl, bcBox (all2_free rfl)⟩, trivial⟩ ?_
    obtain ⟨o1, hL1, h⟩ := h
    refine .loopB (r05_SameSpace.b1 self41 a0 a1) (fun x1 => listEnv [(2, .ptr 0 1 3 0 0), (3, .ptr 1 1 3 0 0), (5, .val (.int .i64 x1))]) (fun x1 => [⟨3, [(TSpace.lit a0)], 0, none⟩, ⟨3, [(TSpace.lit a1)], 0, none⟩]) (fun _ => listEnv []) (fun _ => []) hL1 (fun r_ => r = r_) ?_ ?_ ?_
    · rintro ⟨⟩ rfl
      try dsimp only [Fin.on] at h
      refine .seq ?_
      refine .reg0 rfl (.op 0 rfl (asV rfl) <| .nil0) ?_
      replace h := h.symm
      subst h
      refine .keepL [] [(4, .val (.bool true))] [] (by decide) (by decide) ⟨.free rfl rfl, trivial⟩ trivial ?_
      exact .ret rfl
    · rintro r_ rfl
      exact h
    · rintro x1 z1 h hn1 hx1 hr1
      dsimp only [r05_SameSpace.b1] at h
      refine .seq ?_
      refine .seq ?_
      refine .reg0 rfl (.op 0 rfl (mvV rfl) <| .op 0 rfl (faP fa25_2 rfl) <| .op 0 rfl (ldP rfl sz23 ag23 rfl) <| .op 0 rfl (lnR (l := a0.Parts) sl23 rfl) <| .op 0 rfl (ltI rfl rfl) <| .nil0) ?_
      by_cases c8 : x1 < (a0.Parts.length : Int)
      · rw [if_pos c8] at h
        refine .condT rfl (decide_eq_true c8) ?_
        refine .skip ?_
        refine .seq ?_
        refine .block ?_
        refine .seq ?_
        obtain ⟨g14_3, h⟩ := h
        obtain ⟨g14_8, h⟩ := h
        obtain ⟨t14_10, g14_10, h⟩ := h
        refine .reg1 (e1 := listEnv [(2, .ptr 0 1 3 0 0), (3, .ptr 1 1 3 0 0), (5, .val (.int .i64 x1)), (45, .val (.bool (!t14_10)))]) (H1 := [⟨3, [(TSpace.lit a0)], 0, none⟩, ⟨3, [(TSpace.lit a1)], 0, none⟩]) rfl ?_ ?_
        · exact .drawM [(11, 45, .val (.bool (!t14_10))), (10, 44, .val (.bool t14_10)), (9, 43, .agg (TSpace.lit (rdl a1.Parts x1))), (8, 42, .cptr (TSpace.lit (rdl a1.Parts x1)) 0), (7, 41, .val (.int .i64 x1)), (6, 40, .rows (a1.Parts.map TSpace.cells)), (5, 39, .ptr 1 1 3 0 2), (4, 38, .agg (TSpace.lit (rdl a0.Parts x1))), (3, 37, .cptr (TSpace.lit (rdl a0.Parts x1)) 0), (2, 36, .val (.int .i64 x1)), (1, 35, .rows (a0.Parts.map TSpace.cells)), (0, 34, .ptr 0 1 3 0 2)] [] [[], [0], [], [1, 0, 2], [3, 1, 0, 2], [], [5], [], [6, 5, 7], [8, 6, 5, 7], [4, 3, 1, 0, 2, 9, 8, 6, 5, 7], [10, 4, 3, 1, 0, 2, 9, 8, 6, 5, 7]] (by rfl) (by rfl) (by rfl) (by exact ⟨fun S hS hD hn => .one 0 hS hD hn rfl rfl (faP fa25_2 rfl) rfl rfl rfl, fun S hS hD hn => .one 0 hS hD hn rfl rfl (ldP rfl sz23 ag23 rfl) rfl rfl rfl, fun S hS hD hn => .one 0 hS hD hn rfl rfl (mvV rfl) rfl rfl rfl, fun S hS hD hn => .one 0 hS hD hn rfl rfl (ixR (l := a0.Parts) (lit := TSpace.lit) sl23 rfl rfl TSpace.cells_lit g14_3.1 g14_3.2) rfl rfl rfl, fun S hS hD hn => .one 0 hS hD hn rfl rfl (ldCG rfl sz25 ag25 rfl) rfl rfl rfl, fun S hS hD hn => .one 0 hS hD hn rfl rfl (faP fa25_2 rfl) rfl rfl rfl, fun S hS hD hn => .one 0 hS hD hn rfl rfl (ldP rfl sz23 ag23 rfl) rfl rfl rfl, fun S hS hD hn => .one 0 hS hD hn rfl rfl (mvV rfl) rfl rfl rfl, fun S hS hD hn => .one 0 hS hD hn rfl rfl (ixR (l := a1.Parts) (lit := TSpace.lit) sl23 rfl rfl TSpace.cells_lit g14_8.1 g14_8.2) rfl rfl rfl, fun S hS hD hn => .one 0 hS hD hn rfl rfl (ldCG rfl sz25 ag25 rfl) rfl rfl rfl, fun S hS hD hn => .oneI hS hD hn rfl rfl (callee_of rfl go41 rfl) (.pure rfl rfl (hs41 _ _ _ g14_10)) rfl rfl rfl, fun S hS hD hn => .one 0 hS hD hn rfl rfl (notB rfl) rfl rfl rfl, trivial⟩) _ (by exact ⟨.ptr rfl, .ptr rfl, .free rfl rfl, .free rfl rfl, trivial⟩) (by rfl)
        by_cases c9 : t14_10 = true
        · rw [if_pos c9] at h
          refine .condF rfl (bnotF c9) ?_
          refine .skip ?_
          refine .inBlock ?_
          refine .reg0 rfl (.op 0 rfl (mvV rfl) <| .op 0 rfl (addI rfl rfl) <| .op 0 rfl (asV rfl) <| .nil0) ?_
          refine .keepL [0, 1] [(2, .ptr 0 1 3 0 0), (3, .ptr 1 1 3 0 0), (5, .val (.int .i64 (IntKind.i64.wrap (x1 + 1))))] [⟨3, [(TSpace.lit a0)], 0, none⟩, ⟨3, [(TSpace.lit a1)], 0, none⟩] (by decide) (by decide) ⟨.ptr rfl, .ptr rfl, .free rfl rfl, trivial⟩ ⟨⟨_, rfl, bcBox (all2_free rfl)⟩, ⟨_, rfl, bcBox (all2_free rfl)⟩, trivial⟩ ?_
          exact hn1 _ h
        · rw [if_neg c9] at h
          refine .condT rfl (bnotT (Bool.eq_false_iff.mpr c9)) ?_
          refine .seq ?_
          refine .reg0 rfl (.op 0 rfl (asV rfl) <| .nil0) ?_
          have q3 := hr1 _ h
          replace q3 := q3.symm
          subst q3
          refine .keepL [] [(4, .val (.bool false))] [] (by decide) (by decide) ⟨.free rfl rfl, trivial⟩ trivial ?_
          exact .ret rfl
      · rw [if_neg c8] at h
        refine .condF rfl (decide_eq_false c8) ?_
        refine .exit rfl ?_
        refine .keepL [] [] [] (by decide) (by decide) trivial trivial ?_
        exact hx1 _ h
def r05_SameSpace.fN : Nat → TSpace → TSpace → Bool → Prop
  | 0 => fun _ _ _ => False
  | n + 1 => r05_SameSpace.step (r05_SameSpace.fN n)
theorem r05_SameSpace.ND : ∀ (n : Nat) {a0 : TSpace} {a1 : TSpace} {r : Bool} (h : r05_SameSpace.fN n a0 a1 r), D Try.prog X (.callH 41 [.agg (TSpace.lit a0), .agg (TSpace.lit a1)] [] (.val (.bool r)) [])
  | 0, _, _, _, h => h.elim
  | n + 1, _, _, _, h => r05_SameSpace.stepD (fun _ _ _ h => r05_SameSpace.ND n h) h
def r05_SameSpace.f (a0 : TSpace) (a1 : TSpace) (r : Bool) : Prop := ∃ n, r05_SameSpace.fN n a0 a1 r
theorem r05_SameSpace.D {a0 : TSpace} {a1 : TSpace} {r : Bool} (h : r05_SameSpace.f a0 a1 r) : D Try.prog X (.callH 41 [.agg (TSpace.lit a0), .agg (TSpace.lit a1)] [] (.val (.bool r)) []) := by obtain ⟨n, h⟩ := h; exact r05_SameSpace.ND n h
def r11_sameWord.b1 (a0 : List Int) (a1 : List Int) : Int → Rnd Int Unit Bool → Prop := fun x1 z1 => if x1 < (a0.length : Int) then (((InR x1 a0.length)) ∧ ((InR x1 a1.length)) ∧ if (rdl a0 x1) = (rdl a1 x1) then (z1 = .next (IntKind.i64.wrap (x1 + 1))) else (z1 = .ret false)) else (z1 = .exit ())
def r11_sameWord.f (a0 : List Int) (a1 : List Int) (r : Bool) : Prop :=
  if (a0.length : Int) = (a1.length : Int) then (∃ o1 : Fin Unit Bool, Loop (r11_sameWord.b1 a0 a1) 0 o1 ∧ o1.on (fun _ => r = true) (fun r_ => r = r_)) else (r = false)
theorem r11_sameWord.D {a0 : List Int} {a1 : List Int} {r : Bool} (h : r11_sameWord.f a0 a1 r) : D Try.prog X (.callH 25 [.rows (a0.map (cInt .i64)), .rows (a1.map (cInt .i64))] [] (.val (.bool r)) []) := by
  unfold r11_sameWord.f at h
  refine .enter 26 0 fn25 rfl rfl rfl ?_
  refine .seq ?_
  refine .reg0 rfl (.op 0 rfl (asV rfl) <| .nil0) ?_
  refine .seq ?_
  refine .seq ?_
  refine .reg0 rfl (.op 0 rfl (mvR rfl) <| .op 0 rfl (lnR (l := a0) sl30 rfl) <| .op 0 rfl (mvR rfl) <| .op 0 rfl (lnR (l := a1) sl30 rfl) <| .op 0 rfl (neI rfl rfl) <| .nil0) ?_
  by_cases c1 : (a0.length : Int) = (a1.length : Int)
  · rw [if_pos c1] at h
    refine .condF rfl (bne_eq_false_iff_eq.mpr c1) ?_
    refine .skip ?_
    refine .seq ?_
    refine .seq ?_
    refine .reg0 rfl (.op 0 rfl (asV rfl) <| .nil0) ?_
    refine .block ?_
    refine .keepL [] [(0, .rows (a0.map (cInt .i64))), (1, .rows (a1.map (cInt .i64))), (5, .val (.int .i64 0))] [] (by decide) (by decide) ⟨.free rfl rfl, .free rfl rfl, .free rfl rfl, trivial⟩ trivial ?_
    obtain ⟨o1, hL1, h⟩ := h
    refine .loopB (r11_sameWord.b1 a0 a1) (fun x1 => listEnv [(0, .rows (a0.map (cInt .i64))), (1, .rows (a1.map (cInt .i64))), (5, .val (.int .i64 x1))]) (fun x1 => []) (fun _ => listEnv []) (fun _ => []) hL1 (fun r_ => r = r_) ?_ ?_ ?_
    · rintro ⟨⟩ rfl
      try dsimp only [Fin.on] at h
      refine .seq ?_
      refine .reg0 rfl (.op 0 rfl (asV rfl) <| .nil0) ?_
      replace h := h.symm
      subst h
      refine .keepL [] [(4, .val (.bool true))] [] (by decide) (by decide) ⟨.free rfl rfl, trivial⟩ trivial ?_
      exact .ret rfl
    · rintro r_ rfl
      exact h
    · rintro x1 z1 h hn1 hx1 hr1
      dsimp only [r11_sameWord.b1] at h
      refine .seq ?_
      refine .seq ?_
      refine .reg0 rfl (.op 0 rfl (mvV rfl) <| .op 0 rfl (mvR rfl) <| .op 0 rfl (lnR (l := a0) sl30 rfl) <| .op 0 rfl (ltI rfl rfl) <| .nil0) ?_
      by_cases c6 : x1 < (a0.length : Int)
      · rw [if_pos c6] at h
        refine .condT rfl (decide_eq_true c6) ?_
        refine .skip ?_
        refine .seq ?_
        refine .block ?_
        refine .seq ?_
        obtain ⟨g13_2, h⟩ := h
        obtain ⟨g13_6, h⟩ := h
        refine .reg1 (e1 := listEnv [(0, .rows (a0.map (cInt .i64))), (1, .rows (a1.map (cInt .i64))), (5, .val (.int .i64 x1)), (25, .val (.bool ((rdl a0 x1) != (rdl a1 x1))))]) (H1 := []) rfl ?_ ?_
        · exact .drawM [(8, 25, .val (.bool ((rdl a0 x1) != (rdl a1 x1)))), (7, 24, .val (.int .i64 (rdl a1 x1))), (6, 23, .cptr ((cInt .i64) (rdl a1 x1)) 0), (5, 22, .val (.int .i64 x1)), (4, 21, .rows (a1.map (cInt .i64))), (3, 20, .val (.int .i64 (rdl a0 x1))), (2, 19, .cptr ((cInt .i64) (rdl a0 x1)) 0), (1, 18, .val (.int .i64 x1)), (0, 17, .rows (a0.map (cInt .i64)))] [] [[], [], [0, 1], [2, 0, 1], [], [], [4, 5], [6, 4, 5], [3, 2, 0, 1, 7, 6, 4, 5]] (by rfl) (by rfl) (by rfl) (by exact ⟨fun S hS hD hn => .one 0 hS hD hn rfl rfl (mvR rfl) rfl rfl rfl, fun S hS hD hn => .one 0 hS hD hn rfl rfl (mvV rfl) rfl rfl rfl, fun S hS hD hn => .one 0 hS hD hn rfl rfl (ixR (l := a0) (lit := (cInt .i64)) sl30 rfl rfl (fun _ => rfl) g13_2.1 g13_2.2) rfl rfl rfl, fun S hS hD hn => .one 0 hS hD hn rfl rfl (ldC rfl sz3 ag3 rfl) rfl rfl rfl, fun S hS hD hn => .one 0 hS hD hn rfl rfl (mvR rfl) rfl rfl rfl, fun S hS hD hn => .one 0 hS hD hn rfl rfl (mvV rfl) rfl rfl rfl, fun S hS hD hn => .one 0 hS hD hn rfl rfl (ixR (l := a1) (lit := (cInt .i64)) sl30 rfl rfl (fun _ => rfl) g13_6.1 g13_6.2) rfl rfl rfl, fun S hS hD hn => .one 0 hS hD hn rfl rfl (ldC rfl sz3 ag3 rfl) rfl rfl rfl, fun S hS hD hn => .one 0 hS hD hn rfl rfl (neI rfl rfl) rfl rfl rfl, trivial⟩) _ (by exact ⟨.free rfl rfl, .free rfl rfl, .free rfl rfl, .free rfl rfl, trivial⟩) (by rfl)
        by_cases c7 : (rdl a0 x1) = (rdl a1 x1)
        · rw [if_pos c7] at h
          refine .condF rfl (bne_eq_false_iff_eq.mpr c7) ?_
          refine .skip ?_
          refine .inBlock ?_
          refine .reg0 rfl (.op 0 rfl (mvV rfl) <| .op 0 rfl (addI rfl rfl) <| .op 0 rfl (asV rfl) <| .nil0) ?_
          refine .keepL [] [(0, .rows (a0.map (cInt .i64))), (1, .rows (a1.map (cInt .i64))), (5, .val (.int .i64 (IntKind.i64.wrap (x1 + 1))))] [] (by decide) (by decide) ⟨.free rfl rfl, .free rfl rfl, .free rfl rfl, trivial⟩ trivial ?_
          exact hn1 _ h
        · rw [if_neg c7] at h
          refine .condT rfl (bne_iff_ne.mpr c7) ?_
          refine .seq ?_
          refine .reg0 rfl (.op 0 rfl (asV rfl) <| .nil0) ?_
          have q3 := hr1 _ h
          replace q3 := q3.symm
          subst q3
          refine .keepL [] [(4, .val (.bool false))] [] (by decide) (by decide) ⟨.free rfl rfl, trivial⟩ trivial ?_
          exact .ret rfl
      · rw [if_neg c6] at h
        refine .condF rfl (decide_eq_false c6) ?_
        refine .exit rfl ?_
        refine .keepL [] [] [] (by decide) (by decide) trivial trivial ?_
        exact hx1 _ h
  · rw [if_neg c1] at h
    refine .condT rfl (bne_iff_ne.mpr c1) ?_
    refine .seq ?_
    refine .reg0 rfl (.op 0 rfl (asV rfl) <| .nil0) ?_
    replace h := h.symm
    subst h
    refine .keepL [] [(4, .val (.bool false))] [] (by decide) (by decide) ⟨.free rfl rfl, trivial⟩ trivial ?_
    exact .ret rfl
def r05_Same.b1 (a0 : TWeight) (a1 : TWeight) : Int → Rnd Int Unit Bool → Prop := fun x1 z1 => if x1 < (a0.Cells.length : Int) then (((InR x1 a0.Cells.length)) ∧ ((InR x1 a1.Cells.length)) ∧ if (((rdl a0.Cells x1).From == (rdl a1.Cells x1).From) && (((rdl a0.Cells x1).Kind == (rdl a1.Cells x1).Kind) && (((rdl a0.Cells x1).K == (rdl a1.Cells x1).K) && true))) = true then (z1 = .next (IntKind.i64.wrap (x1 + 1))) else (z1 = .ret false)) else (z1 = .exit ())
def r05_Same.b2 (self15 : TWeight → TWeight → Bool → Prop) (a0 : TWeight) (a1 : TWeight) : Int → Rnd Int Unit Bool → Prop := fun x2 z2 => if x2 < (a0.Parts.length : Int) then (((InR x2 a0.Parts.length)) ∧ ((InR x2 a1.Parts.length)) ∧ ∃ t27_10 : Bool, (self15 (rdl a0.Parts x2) (rdl a1.Parts x2) t27_10) ∧ if t27_10 = true then (z2 = .next (IntKind.i64.wrap (x2 + 1))) else (z2 = .ret false)) else (z2 = .exit ())
def r05_Same.step (self15 : TWeight → TWeight → Bool → Prop) (a0 : TWeight) (a1 : TWeight) (r : Bool) : Prop :=
  ∃ t2_17 : Bool, ((a0.Zero = a1.Zero) → (a0.Cost = a1.Cost) → r03_Same.f a0.Facts a1.Facts t2_17) ∧ if ((!(a0.Zero == a1.Zero)) || ((!(a0.Cost == a1.Cost)) || ((!t2_17) || ((!((a0.Cells.length : Int) == (a1.Cells.length : Int))) || ((a0.Parts.length : Int) != (a1.Parts.length : Int)))))) = true then (r = false) else (∃ o1 : Fin Unit Bool, Loop (r05_Same.b1 a0 a1) 0 o1 ∧ o1.on (fun _ => ∃ o2 : Fin Unit Bool, Loop (r05_Same.b2 self15 a0 a1) 0 o2 ∧ o2.on (fun _ => r = true) (fun r_ => r = r_)) (fun r_ => r = r_))
theorem r05_Same.stepD {self15 : TWeight → TWeight → Bool → Prop} {a0 : TWeight} {a1 : TWeight} (hs15 : ∀ z0_ z1_ r_, self15 z0_ z1_ r_ → D Try.prog X (.callH 15 [.agg (TWeight.lit z0_), .agg (TWeight.lit z1_)] [] (.val (.bool r_)) [])) {r : Bool} (h : r05_Same.step self15 a0 a1 r) : D Try.prog X (.callH 15 [.agg (TWeight.lit a0), .agg (TWeight.lit a1)] [] (.val (.bool r)) []) := by
  unfold r05_Same.step at h
  refine .enter 82 0 fn15 rfl rfl rfl ?_
  refine .seq ?_
  refine .room 0 ?_
  refine .room 0 ?_
  refine .reg0 rfl (.op 0 rfl (bxP (s := 6) (cs := (TWeight.lit a0)) rfl ⟨rfl, by decide, rfl⟩ rfl) <| .op 1 rfl (bxP (s := 6) (cs := (TWeight.lit a1)) rfl ⟨rfl, by decide, rfl⟩ rfl) <| .op 0 rfl (asV rfl) <| .nil0) ?_
  refine .seq ?_
  refine .seq ?_
  obtain ⟨t2_17, g2_17, h⟩ := h
  refine .reg0 (e1 := listEnv [(2, .ptr 0 1 6 0 0), (3, .ptr 1 1 6 0 0), (44, .val (.bool ((!(a0.Zero == a1.Zero)) || ((!(a0.Cost == a1.Cost)) || ((!t2_17) || ((!((a0.Cells.length : Int) == (a1.Cells.length : Int))) || ((a0.Parts.length : Int) != (a1.Parts.length : Int))))))))]) (H1 := [⟨6, [(TWeight.lit a0)], 0, none⟩, ⟨6, [(TWeight.lit a1)], 0, none⟩]) rfl ?_ ?_
  · by_cases c1 : a0.Zero = a1.Zero
    · by_cases c2 : a0.Cost = a1.Cost
      · by_cases c3 : t2_17 = true
        · by_cases c4 : (a0.Cells.length : Int) = (a1.Cells.length : Int)
          · exact (.op 0 rfl (faP fa49_0 rfl) <| .op 0 rfl (ldP rfl sz4 ag4 rfl) <| .op 0 rfl (faP fa49_0 rfl) <| .op 0 rfl (ldP rfl sz4 ag4 rfl) <| .op 0 rfl (neB un4 rfl rfl) <| .op 0 rfl (mvV rfl) <| .op 0 (gT rfl rfl rfl (bne_eq_false_iff_eq.mpr c1)) (faP fa49_1 rfl) <| .op 0 (gT rfl rfl rfl (bne_eq_false_iff_eq.mpr c1)) (ldP rfl sz3 ag3 rfl) <| .op 0 (gT rfl rfl rfl (bne_eq_false_iff_eq.mpr c1)) (faP fa49_1 rfl) <| .op 0 (gT rfl rfl rfl (bne_eq_false_iff_eq.mpr c1)) (ldP rfl sz3 ag3 rfl) <| .op 0 (gT rfl rfl rfl (bne_eq_false_iff_eq.mpr c1)) (neI rfl rfl) <| .op 0 rfl (pkFV rfl (bne_eq_false_iff_eq.mpr c1) rfl) <| .op 0 rfl (mvV rfl) <| .op 0 (gT rfl rfl rfl (bne_eq_false_iff_eq.mpr c2)) (faP fa49_2 rfl) <| .op 0 (gT rfl rfl rfl (bne_eq_false_iff_eq.mpr c2)) (ldG rfl sz45 ag45 rfl) <| .op 0 (gT rfl rfl rfl (bne_eq_false_iff_eq.mpr c2)) (faP fa49_2 rfl) <| .op 0 (gT rfl rfl rfl (bne_eq_false_iff_eq.mpr c2)) (ldG rfl sz45 ag45 rfl) <| .callI (gT rfl rfl rfl (bne_eq_false_iff_eq.mpr c2)) (callee_of rfl go30 rfl) (.pure rfl rfl (r03_Same.D (g2_17 c1 c2))) <| .op 0 (gT rfl rfl rfl (bne_eq_false_iff_eq.mpr c2)) (notB rfl) <| .op 0 rfl (pkFV rfl (bne_eq_false_iff_eq.mpr c2) rfl) <| .op 0 rfl (mvV rfl) <| .op 0 (gT rfl rfl rfl (bnotF c3)) (faP fa49_3 rfl) <| .op 0 (gT rfl rfl rfl (bnotF c3)) (ldP rfl sz46 ag46 rfl) <| .op 0 (gT rfl rfl rfl (bnotF c3)) (lnR (l := a0.Cells) sl46 rfl) <| .op 0 (gT rfl rfl rfl (bnotF c3)) (faP fa49_3 rfl) <| .op 0 (gT rfl rfl rfl (bnotF c3)) (ldP rfl sz46 ag46 rfl) <| .op 0 (gT rfl rfl rfl (bnotF c3)) (lnR (l := a1.Cells) sl46 rfl) <| .op 0 (gT rfl rfl rfl (bnotF c3)) (neI rfl rfl) <| .op 0 rfl (pkFV rfl (bnotF c3) rfl) <| .op 0 rfl (mvV rfl) <| .op 0 (gT rfl rfl rfl (bne_eq_false_iff_eq.mpr c4)) (faP fa49_4 rfl) <| .op 0 (gT rfl rfl rfl (bne_eq_false_iff_eq.mpr c4)) (ldP rfl sz47 ag47 rfl) <| .op 0 (gT rfl rfl rfl (bne_eq_false_iff_eq.mpr c4)) (lnR (l := a0.Parts) sl47 rfl) <| .op 0 (gT rfl rfl rfl (bne_eq_false_iff_eq.mpr c4)) (faP fa49_4 rfl) <| .op 0 (gT rfl rfl rfl (bne_eq_false_iff_eq.mpr c4)) (ldP rfl sz47 ag47 rfl) <| .op 0 (gT rfl rfl rfl (bne_eq_false_iff_eq.mpr c4)) (lnR (l := a1.Parts) sl47 rfl) <| .op 0 (gT rfl rfl rfl (bne_eq_false_iff_eq.mpr c4)) (neI rfl rfl) <| .op 0 rfl (pkFV rfl (bne_eq_false_iff_eq.mpr c4) rfl) <| .nilL _ ⟨.ptr rfl, .ptr rfl, cB rfl (mOrF (bnotF (beq_iff_eq.mpr c1)) (mOrF (bnotF (beq_iff_eq.mpr c2)) (mOrF (bnotF c3) (mOrF (bnotF (beq_iff_eq.mpr c4)) rfl)))), trivial⟩)
          · exact (.op 0 rfl (faP fa49_0 rfl) <| .op 0 rfl (ldP rfl sz4 ag4 rfl) <| .op 0 rfl (faP fa49_0 rfl) <| .op 0 rfl (ldP rfl sz4 ag4 rfl) <| .op 0 rfl (neB un4 rfl rfl) <| .op 0 rfl (mvV rfl) <| .op 0 (gT rfl rfl rfl (bne_eq_false_iff_eq.mpr c1)) (faP fa49_1 rfl) <| .op 0 (gT rfl rfl rfl (bne_eq_false_iff_eq.mpr c1)) (ldP rfl sz3 ag3 rfl) <| .op 0 (gT rfl rfl rfl (bne_eq_false_iff_eq.mpr c1)) (faP fa49_1 rfl) <| .op 0 (gT rfl rfl rfl (bne_eq_false_iff_eq.mpr c1)) (ldP rfl sz3 ag3 rfl) <| .op 0 (gT rfl rfl rfl (bne_eq_false_iff_eq.mpr c1)) (neI rfl rfl) <| .op 0 rfl (pkFV rfl (bne_eq_false_iff_eq.mpr c1) rfl) <| .op 0 rfl (mvV rfl) <| .op 0 (gT rfl rfl rfl (bne_eq_false_iff_eq.mpr c2)) (faP fa49_2 rfl) <| .op 0 (gT rfl rfl rfl (bne_eq_false_iff_eq.mpr c2)) (ldG rfl sz45 ag45 rfl) <| .op 0 (gT rfl rfl rfl (bne_eq_false_iff_eq.mpr c2)) (faP fa49_2 rfl) <| .op 0 (gT rfl rfl rfl (bne_eq_false_iff_eq.mpr c2)) (ldG rfl sz45 ag45 rfl) <| .callI (gT rfl rfl rfl (bne_eq_false_iff_eq.mpr c2)) (callee_of rfl go30 rfl) (.pure rfl rfl (r03_Same.D (g2_17 c1 c2))) <| .op 0 (gT rfl rfl rfl (bne_eq_false_iff_eq.mpr c2)) (notB rfl) <| .op 0 rfl (pkFV rfl (bne_eq_false_iff_eq.mpr c2) rfl) <| .op 0 rfl (mvV rfl) <| .op 0 (gT rfl rfl rfl (bnotF c3)) (faP fa49_3 rfl) <| .op 0 (gT rfl rfl rfl (bnotF c3)) (ldP rfl sz46 ag46 rfl) <| .op 0 (gT rfl rfl rfl (bnotF c3)) (lnR (l := a0.Cells) sl46 rfl) <| .op 0 (gT rfl rfl rfl (bnotF c3)) (faP fa49_3 rfl) <| .op 0 (gT rfl rfl rfl (bnotF c3)) (ldP rfl sz46 ag46 rfl) <| .op 0 (gT rfl rfl rfl (bnotF c3)) (lnR (l := a1.Cells) sl46 rfl) <| .op 0 (gT rfl rfl rfl (bnotF c3)) (neI rfl rfl) <| .op 0 rfl (pkFV rfl (bnotF c3) rfl) <| .op 0 rfl (mvV rfl) <| .no (gF rfl rfl rfl (bne_iff_ne.mpr c4)) <| .no (gF rfl rfl rfl (bne_iff_ne.mpr c4)) <| .no (gF rfl rfl rfl (bne_iff_ne.mpr c4)) <| .no (gF rfl rfl rfl (bne_iff_ne.mpr c4)) <| .no (gF rfl rfl rfl (bne_iff_ne.mpr c4)) <| .no (gF rfl rfl rfl (bne_iff_ne.mpr c4)) <| .no (gF rfl rfl rfl (bne_iff_ne.mpr c4)) <| .op 0 rfl (pkTV rfl (bne_iff_ne.mpr c4) rfl) <| .nilL _ ⟨.ptr rfl, .ptr rfl, cB rfl (mOrF (bnotF (beq_iff_eq.mpr c1)) (mOrF (bnotF (beq_iff_eq.mpr c2)) (mOrF (bnotF c3) (mOrT (bnotT (beq_eq_false_iff_ne.mpr c4)))))), trivial⟩)
        · exact (.op 0 rfl (faP fa49_0 rfl) <| .op 0 rfl (ldP rfl sz4 ag4 rfl) <| .op 0 rfl (faP fa49_0 rfl) <| .op 0 rfl (ldP rfl sz4 ag4 rfl) <| .op 0 rfl (neB un4 rfl rfl) <| .op 0 rfl (mvV rfl) <| .op 0 (gT rfl rfl rfl (bne_eq_false_iff_eq.mpr c1)) (faP fa49_1 rfl) <| .op 0 (gT rfl rfl rfl (bne_eq_false_iff_eq.mpr c1)) (ldP rfl sz3 ag3 rfl) <| .op 0 (gT rfl rfl rfl (bne_eq_false_iff_eq.mpr c1)) (faP fa49_1 rfl) <| .op 0 (gT rfl rfl rfl (bne_eq_false_iff_eq.mpr c1)) (ldP rfl sz3 ag3 rfl) <| .op 0 (gT rfl rfl rfl (bne_eq_false_iff_eq.mpr c1)) (neI rfl rfl) <| .op 0 rfl (pkFV rfl (bne_eq_false_iff_eq.mpr c1) rfl) <| .op 0 rfl (mvV rfl) <| .op 0 (gT rfl rfl rfl (bne_eq_false_iff_eq.mpr c2)) (faP fa49_2 rfl) <| .op 0 (gT rfl rfl rfl (bne_eq_false_iff_eq.mpr c2)) (ldG rfl sz45 ag45 rfl) <| .op 0 (gT rfl rfl rfl (bne_eq_false_iff_eq.mpr c2)) (faP fa49_2 rfl) <| .op 0 (gT rfl rfl rfl (bne_eq_false_iff_eq.mpr c2)) (ldG rfl sz45 ag45 rfl) <| .callI (gT rfl rfl rfl (bne_eq_false_iff_eq.mpr c2)) (callee_of rfl go30 rfl) (.pure rfl rfl (r03_Same.D (g2_17 c1 c2))) <| .op 0 (gT rfl rfl rfl (bne_eq_false_iff_eq.mpr c2)) (notB rfl) <| .op 0 rfl (pkFV rfl (bne_eq_false_iff_eq.mpr c2) rfl) <| .op 0 rfl (mvV rfl) <| .no (gF rfl rfl rfl (bnotT (Bool.eq_false_iff.mpr c3))) <| .no (gF rfl rfl rfl (bnotT (Bool.eq_false_iff.mpr c3))) <| .no (gF rfl rfl rfl (bnotT (Bool.eq_false_iff.mpr c3))) <| .no (gF rfl rfl rfl (bnotT (Bool.eq_false_iff.mpr c3))) <| .no (gF rfl rfl rfl (bnotT (Bool.eq_false_iff.mpr c3))) <| .no (gF rfl rfl rfl (bnotT (Bool.eq_false_iff.mpr c3))) <| .no (gF rfl rfl rfl (bnotT (Bool.eq_false_iff.mpr c3))) <| .op 0 rfl (pkTV rfl (bnotT (Bool.eq_false_iff.mpr c3)) rfl) <| .op 0 rfl (mvV rfl) <| .no (gF rfl rfl rfl rfl) <| .no (gF rfl rfl rfl rfl) <| .no (gF rfl rfl rfl rfl) <| .no (gF rfl rfl rfl rfl) <| .no (gF rfl rfl rfl rfl) <| .no (gF rfl rfl rfl rfl) <| .no (gF rfl rfl rfl rfl) <| .op 0 rfl (pkTV rfl rfl rfl) <| .nilL _ ⟨.ptr rfl, .ptr rfl, cB rfl (mOrF (bnotF (beq_iff_eq.mpr c1)) (mOrF (bnotF (beq_iff_eq.mpr c2)) (mOrT (bnotT (Bool.eq_false_iff.mpr c3))))), trivial⟩)
      · exact (.op 0 rfl (faP fa49_0 rfl) <| .op 0 rfl (ldP rfl sz4 ag4 rfl) <| .op 0 rfl (faP fa49_0 rfl) <| .op 0 rfl (ldP rfl sz4 ag4 rfl) <| .op 0 rfl (neB un4 rfl rfl) <| .op 0 rfl (mvV rfl) <| .op 0 (gT rfl rfl rfl (bne_eq_false_iff_eq.mpr c1)) (faP fa49_1 rfl) <| .op 0 (gT rfl rfl rfl (bne_eq_false_iff_eq.mpr c1)) (ldP rfl sz3 ag3 rfl) <| .op 0 (gT rfl rfl rfl (bne_eq_false_iff_eq.mpr c1)) (faP fa49_1 rfl) <| .op 0 (gT rfl rfl rfl (bne_eq_false_iff_eq.mpr c1)) (ldP rfl sz3 ag3 rfl) <| .op 0 (gT rfl rfl rfl (bne_eq_false_iff_eq.mpr c1)) (neI rfl rfl) <| .op 0 rfl (pkFV rfl (bne_eq_false_iff_eq.mpr c1) rfl) <| .op 0 rfl (mvV rfl) <| .no (gF rfl rfl rfl (bne_iff_ne.mpr c2)) <| .no (gF rfl rfl rfl (bne_iff_ne.mpr c2)) <| .no (gF rfl rfl rfl (bne_iff_ne.mpr c2)) <| .no (gF rfl rfl rfl (bne_iff_ne.mpr c2)) <| .no (gF rfl rfl rfl (bne_iff_ne.mpr c2)) <| .no (gF rfl rfl rfl (bne_iff_ne.mpr c2)) <| .op 0 rfl (pkTV rfl (bne_iff_ne.mpr c2) rfl) <| .op 0 rfl (mvV rfl) <| .no (gF rfl rfl rfl rfl) <| .no (gF rfl rfl rfl rfl) <| .no (gF rfl rfl rfl rfl) <| .no (gF rfl rfl rfl rfl) <| .no (gF rfl rfl rfl rfl) <| .no (gF rfl rfl rfl rfl) <| .no (gF rfl rfl rfl rfl) <| .op 0 rfl (pkTV rfl rfl rfl) <| .op 0 rfl (mvV rfl) <| .no (gF rfl rfl rfl rfl) <| .no (gF rfl rfl rfl rfl) <| .no (gF rfl rfl rfl rfl) <| .no (gF rfl rfl rfl rfl) <| .no (gF rfl rfl rfl rfl) <| .no (gF rfl rfl rfl rfl) <| .no (gF rfl rfl rfl rfl) <| .op 0 rfl (pkTV rfl rfl rfl) <| .nilL _ ⟨.ptr rfl, .ptr rfl, cB rfl (mOrF (bnotF (beq_iff_eq.mpr c1)) (mOrT (bnotT (beq_eq_false_iff_ne.mpr c2)))), trivial⟩)
    · exact (.op 0 rfl (faP fa49_0 rfl) <| .op 0 rfl (ldP rfl sz4 ag4 rfl) <| .op 0 rfl (faP fa49_0 rfl) <| .op 0 rfl (ldP rfl sz4 ag4 rfl) <| .op 0 rfl (neB un4 rfl rfl) <| .op 0 rfl (mvV rfl) <| .no (gF rfl rfl rfl (bne_iff_ne.mpr c1)) <| .no (gF rfl rfl rfl (bne_iff_ne.mpr c1)) <| .no (gF rfl rfl rfl (bne_iff_ne.mpr c1)) <| .no (gF rfl rfl rfl (bne_iff_ne.mpr c1)) <| .no (gF rfl rfl rfl (bne_iff_ne.mpr c1)) <| .op 0 rfl (pkTV rfl (bne_iff_ne.mpr c1) rfl) <| .op 0 rfl (mvV rfl) <| .no (gF rfl rfl rfl rfl) <| .no (gF rfl rfl rfl rfl) <| .no (gF rfl rfl rfl rfl) <| .no (gF rfl rfl rfl rfl) <| .no (gF rfl rfl rfl rfl) <| .no (gF rfl rfl rfl rfl) <| .op 0 rfl (pkTV rfl rfl rfl) <| .op 0 rfl (mvV rfl) <| .no (gF rfl rfl rfl rfl) <| .no (gF rfl rfl rfl rfl) <| .no (gF rfl rfl rfl rfl) <| .no (gF rfl rfl rfl rfl) <| .no (gF rfl rfl rfl rfl) <| .no (gF rfl rfl rfl rfl) <| .no (gF rfl rfl rfl rfl) <| .op 0 rfl (pkTV rfl rfl rfl) <| .op 0 rfl (mvV rfl) <| .no (gF rfl rfl rfl rfl) <| .no (gF rfl rfl rfl rfl) <| .no (gF rfl rfl rfl rfl) <| .no (gF rfl rfl rfl rfl) <| .no (gF rfl rfl rfl rfl) <| .no (gF rfl rfl rfl rfl) <| .no (gF rfl rfl rfl rfl) <| .op 0 rfl (pkTV rfl rfl rfl) <| .nilL _ ⟨.ptr rfl, .ptr rfl, cB rfl (mOrT (bnotT (beq_eq_false_iff_ne.mpr c1))), trivial⟩)
  by_cases c5 : ((!(a0.Zero == a1.Zero)) || ((!(a0.Cost == a1.Cost)) || ((!t2_17) || ((!((a0.Cells.length : Int) == (a1.Cells.length : Int))) || ((a0.Parts.length : Int) != (a1.Parts.length : Int)))))) = true
  · rw [if_pos c5] at h
    refine .condT rfl c5 ?_
    refine .seq ?_
    refine .reg0 rfl (.op 0 rfl (asV rfl) <| .nil0) ?_
    replace h := h.symm
    subst h
    refine .keepL [] [(4, .val (.bool false))] [] (by decide) (by decide) ⟨.free rfl rfl, trivial⟩ trivial ?_
    exact .ret rfl
  · rw [if_neg c5] at h
    refine .condF rfl (Bool.eq_false_iff.mpr c5) ?_
    refine .skip ?_
    refine .seq ?_
    refine .seq ?_
    refine .reg0 rfl (.op 0 rfl (asV rfl) <| .nil0) ?_
    refine .block ?_
    refine .keepL [0, 1] [(2, .ptr 0 1 6 0 0), (3, .ptr 1 1 6 0 0), (5, .val (.int .i64 0))] [⟨6, [(TWeight.lit a0)], 0, none⟩, ⟨6, [(TWeight.lit a1)], 0, none⟩] (by decide) (by decide) ⟨.ptr rfl, .ptr rfl, .free rfl rfl, trivial⟩ ⟨⟨_, rfl, bcBox (all2_free rfl)⟩, ⟨_, rfl, bcBox (all2_free rfl)⟩, trivial⟩ ?_
    obtain ⟨o1, hL1, h⟩ := h
    refine .loopB (r05_Same.b1 a0 a1) (fun x1 => listEnv [(2, .ptr 0 1 6 0 0), (3, .ptr 1 1 6 0 0), (5, .val (.int .i64 x1))]) (fun x1 => [⟨6, [(TWeight.lit a0)], 0, none⟩, ⟨6, [(TWeight.lit a1)], 0, none⟩]) (fun _ => listEnv [(2, .ptr 0 1 6 0 0), (3, .ptr 1 1 6 0 0)]) (fun _ => [⟨6, [(TWeight.lit a0)], 0, none⟩, ⟨6, [(TWeight.lit a1)], 0, none⟩]) hL1 (fun r_ => r = r_) ?_ ?_ ?_
    · rintro ⟨⟩ rfl
      try dsimp only [Fin.on] at h
      refine .seq ?_
      refine .seq ?_
      refine .reg0 rfl (.op 0 rfl (asV rfl) <| .nil0) ?_
      refine .block ?_
      refine .keepL [0, 1] [(2, .ptr 0 1 6 0 0), (3, .ptr 1 1 6 0 0), (6, .val (.int .i64 0))] [⟨6, [(TWeight.lit a0)], 0, none⟩, ⟨6, [(TWeight.lit a1)], 0, none⟩] (by decide) (by decide) ⟨.ptr rfl, .ptr rfl, .free rfl rfl, trivial⟩ ⟨⟨_, rfl, bcBox (all2_free rfl)⟩, ⟨_, rfl, bcBox (all2_free rfl)⟩, trivial⟩ ?_
      obtain ⟨o2, hL2, h⟩ := h
      refine .loopB (r05_Same.b2 self15 a0 a1) (fun x2 => listEnv [(2, .ptr 0 1 6 0 0), (3, .ptr 1 1 6 0 0), (6, .val (.int .i64 x2))]) (fun x2 => [⟨6, [(TWeight.lit a0)], 0, none⟩, ⟨6, [(TWeight.lit a1)], 0, none⟩]) (fun _ => listEnv []) (fun _ => []) hL2 (fun r_ => r = r_) ?_ ?_ ?_
      · rintro ⟨⟩ rfl
        try dsimp only [Fin.on] at h
        refine .seq ?_
        refine .reg0 rfl (.op 0 rfl (asV rfl) <| .nil0) ?_
        replace h := h.symm
        subst h
        refine .keepL [] [(4, .val (.bool true))] [] (by decide) (by decide) ⟨.free rfl rfl, trivial⟩ trivial ?_
        exact .ret rfl
      · rintro r_ rfl
        exact h
      · rintro x2 z2 h hn2 hx2 hr2
        dsimp only [r05_Same.b2] at h
        refine .seq ?_
        refine .seq ?_
        refine .reg0 rfl (.op 0 rfl (mvV rfl) <| .op 0 rfl (faP fa49_4 rfl) <| .op 0 rfl (ldP rfl sz47 ag47 rfl) <| .op 0 rfl (lnR (l := a0.Parts) sl47 rfl) <| .op 0 rfl (ltI rfl rfl) <| .nil0) ?_
        by_cases c16 : x2 < (a0.Parts.length : Int)
        · rw [if_pos c16] at h
          refine .condT rfl (decide_eq_true c16) ?_
          refine .skip ?_
          refine .seq ?_
          refine .block ?_
          refine .seq ?_
          obtain ⟨g27_3, h⟩ := h
          obtain ⟨g27_8, h⟩ := h
          obtain ⟨t27_10, g27_10, h⟩ := h
          refine .reg1 (e1 := listEnv [(2, .ptr 0 1 6 0 0), (3, .ptr 1 1 6 0 0), (6, .val (.int .i64 x2)), (81, .val (.bool (!t27_10)))]) (H1 := [⟨6, [(TWeight.lit a0)], 0, none⟩, ⟨6, [(TWeight.lit a1)], 0, none⟩]) rfl ?_ ?_
          · exact .drawM [(11, 81, .val (.bool (!t27_10))), (10, 80, .val (.bool t27_10)), (9, 79, .agg (TWeight.lit (rdl a1.Parts x2))), (8, 78, .cptr (TWeight.lit (rdl a1.Parts x2)) 0), (7, 77, .val (.int .i64 x2)), (6, 76, .rows (a1.Parts.map TWeight.cells)), (5, 75, .ptr 1 1 6 0 5), (4, 74, .agg (TWeight.lit (rdl a0.Parts x2))), (3, 73, .cptr (TWeight.lit (rdl a0.Parts x2)) 0), (2, 72, .val (.int .i64 x2)), (1, 71, .rows (a0.Parts.map TWeight.cells)), (0, 70, .ptr 0 1 6 0 5)] [] [[], [0], [], [1, 0, 2], [3, 1, 0, 2], [], [5], [], [6, 5, 7], [8, 6, 5, 7], [4, 3, 1, 0, 2, 9, 8, 6, 5, 7], [10, 4, 3, 1, 0, 2, 9, 8, 6, 5, 7]] (by rfl) (by rfl) (by rfl) (by exact ⟨fun S hS hD hn => .one 0 hS hD hn rfl rfl (faP fa49_4 rfl) rfl rfl rfl, fun S hS hD hn => .one 0 hS hD hn rfl rfl (ldP rfl sz47 ag47 rfl) rfl rfl rfl, fun S hS hD hn => .one 0 hS hD hn rfl rfl (mvV rfl) rfl rfl rfl, fun S hS hD hn => .one 0 hS hD hn rfl rfl (ixR (l := a0.Parts) (lit := TWeight.lit) sl47 rfl rfl TWeight.cells_lit g27_3.1 g27_3.2) rfl rfl rfl, fun S hS hD hn => .one 0 hS hD hn rfl rfl (ldCG rfl sz49 ag49 rfl) rfl rfl rfl, fun S hS hD hn => .one 0 hS hD hn rfl rfl (faP fa49_4 rfl) rfl rfl rfl, fun S hS hD hn => .one 0 hS hD hn rfl rfl (ldP rfl sz47 ag47 rfl) rfl rfl rfl, fun S hS hD hn => .one 0 hS hD hn rfl rfl (mvV rfl) rfl rfl rfl, fun S hS hD hn => .one 0 hS hD hn rfl rfl (ixR (l := a1.Parts) (lit := TWeight.lit) sl47 rfl rfl TWeight.cells_lit g27_8.1 g27_8.2) rfl rfl rfl, fun S hS hD hn => .one 0 hS hD hn rfl rfl (ldCG rfl sz49 ag49 rfl) rfl rfl rfl, fun S hS hD hn => .oneI hS hD hn rfl rfl (callee_of rfl go15 rfl) (.pure rfl rfl (hs15 _ _ _ g27_10)) rfl rfl rfl, fun S hS hD hn => .one 0 hS hD hn rfl rfl (notB rfl) rfl rfl rfl, trivial⟩) _ (by exact ⟨.ptr rfl, .ptr rfl, .free rfl rfl, .free rfl rfl, trivial⟩) (by rfl)
          by_cases c17 : t27_10 = true
          · rw [if_pos c17] at h
            refine .condF rfl (bnotF c17) ?_
            refine .skip ?_
            refine .inBlock ?_
            refine .reg0 rfl (.op 0 rfl (mvV rfl) <| .op 0 rfl (addI rfl rfl) <| .op 0 rfl (asV rfl) <| .nil0) ?_
            refine .keepL [0, 1] [(2, .ptr 0 1 6 0 0), (3, .ptr 1 1 6 0 0), (6, .val (.int .i64 (IntKind.i64.wrap (x2 + 1))))] [⟨6, [(TWeight.lit a0)], 0, none⟩, ⟨6, [(TWeight.lit a1)], 0, none⟩] (by decide) (by decide) ⟨.ptr rfl, .ptr rfl, .free rfl rfl, trivial⟩ ⟨⟨_, rfl, bcBox (all2_free rfl)⟩, ⟨_, rfl, bcBox (all2_free rfl)⟩, trivial⟩ ?_
            exact hn2 _ h
          · rw [if_neg c17] at h
            refine .condT rfl (bnotT (Bool.eq_false_iff.mpr c17)) ?_
            refine .seq ?_
            refine .reg0 rfl (.op 0 rfl (asV rfl) <| .nil0) ?_
            have q6 := hr2 _ h
            replace q6 := q6.symm
            subst q6
            refine .keepL [] [(4, .val (.bool false))] [] (by decide) (by decide) ⟨.free rfl rfl, trivial⟩ trivial ?_
            exact .ret rfl
        · rw [if_neg c16] at h
          refine .condF rfl (decide_eq_false c16) ?_
          refine .exit rfl ?_
          refine .keepL [] [] [] (by decide) (by decide) trivial trivial ?_
          exact hx2 _ h
    · rintro r_ rfl
      exact h
    · rintro x1 z1 h hn1 hx1 hr1
      dsimp only [r05_Same.b1] at h
      refine .seq ?_
      refine .seq ?_
      refine .reg0 rfl (.op 0 rfl (mvV rfl) <| .op 0 rfl (faP fa49_3 rfl) <| .op 0 rfl (ldP rfl sz46 ag46 rfl) <| .op 0 rfl (lnR (l := a0.Cells) sl46 rfl) <| .op 0 rfl (ltI rfl rfl) <| .nil0) ?_
      by_cases c10 : x1 < (a0.Cells.length : Int)
      · rw [if_pos c10] at h
        refine .condT rfl (decide_eq_true c10) ?_
        refine .skip ?_
        refine .seq ?_
        refine .block ?_
        refine .seq ?_
        obtain ⟨g14_3, h⟩ := h
        obtain ⟨g14_8, h⟩ := h
        refine .reg1 (e1 := listEnv [(2, .ptr 0 1 6 0 0), (3, .ptr 1 1 6 0 0), (5, .val (.int .i64 x1)), (62, .val (.bool (!(((rdl a0.Cells x1).From == (rdl a1.Cells x1).From) && (((rdl a0.Cells x1).Kind == (rdl a1.Cells x1).Kind) && (((rdl a0.Cells x1).K == (rdl a1.Cells x1).K) && true))))))]) (H1 := [⟨6, [(TWeight.lit a0)], 0, none⟩, ⟨6, [(TWeight.lit a1)], 0, none⟩]) rfl ?_ ?_
        · exact .drawM [(10, 62, .val (.bool (!(((rdl a0.Cells x1).From == (rdl a1.Cells x1).From) && (((rdl a0.Cells x1).Kind == (rdl a1.Cells x1).Kind) && (((rdl a0.Cells x1).K == (rdl a1.Cells x1).K) && true)))))), (9, 61, .agg (TCell.lit (rdl a1.Cells x1))), (8, 60, .cptr (TCell.lit (rdl a1.Cells x1)) 0), (7, 59, .val (.int .i64 x1)), (6, 58, .rows (a1.Cells.map TCell.cells)), (5, 57, .ptr 1 1 6 0 4), (4, 56, .agg (TCell.lit (rdl a0.Cells x1))), (3, 55, .cptr (TCell.lit (rdl a0.Cells x1)) 0), (2, 54, .val (.int .i64 x1)), (1, 53, .rows (a0.Cells.map TCell.cells)), (0, 52, .ptr 0 1 6 0 4)] [] [[], [0], [], [1, 0, 2], [3, 1, 0, 2], [], [5], [], [6, 5, 7], [8, 6, 5, 7], [4, 3, 1, 0, 2, 9, 8, 6, 5, 7]] (by rfl) (by rfl) (by rfl) (by exact ⟨fun S hS hD hn => .one 0 hS hD hn rfl rfl (faP fa49_3 rfl) rfl rfl rfl, fun S hS hD hn => .one 0 hS hD hn rfl rfl (ldP rfl sz46 ag46 rfl) rfl rfl rfl, fun S hS hD hn => .one 0 hS hD hn rfl rfl (mvV rfl) rfl rfl rfl, fun S hS hD hn => .one 0 hS hD hn rfl rfl (ixR (l := a0.Cells) (lit := TCell.lit) sl46 rfl rfl (fun _ => rfl) g14_3.1 g14_3.2) rfl rfl rfl, fun S hS hD hn => .one 0 hS hD hn rfl rfl (ldCG rfl sz83 ag83 rfl) rfl rfl rfl, fun S hS hD hn => .one 0 hS hD hn rfl rfl (faP fa49_3 rfl) rfl rfl rfl, fun S hS hD hn => .one 0 hS hD hn rfl rfl (ldP rfl sz46 ag46 rfl) rfl rfl rfl, fun S hS hD hn => .one 0 hS hD hn rfl rfl (mvV rfl) rfl rfl rfl, fun S hS hD hn => .one 0 hS hD hn rfl rfl (ixR (l := a1.Cells) (lit := TCell.lit) sl46 rfl rfl (fun _ => rfl) g14_8.1 g14_8.2) rfl rfl rfl, fun S hS hD hn => .one 0 hS hD hn rfl rfl (ldCG rfl sz83 ag83 rfl) rfl rfl rfl, fun S hS hD hn => .one 0 hS hD hn rfl rfl (neS (xs := [.int .u64 ((rdl a0.Cells x1).From), .int .i64 ((rdl a0.Cells x1).Kind), .int .i64 ((rdl a0.Cells x1).K)]) (ys := [.int .u64 ((rdl a1.Cells x1).From), .int .i64 ((rdl a1.Cells x1).Kind), .int .i64 ((rdl a1.Cells x1).K)]) ek83 rfl rfl rfl rfl rfl) rfl rfl rfl, trivial⟩) _ (by exact ⟨.ptr rfl, .ptr rfl, .free rfl rfl, .free rfl rfl, trivial⟩) (by rfl)
        by_cases c11 : (((rdl a0.Cells x1).From == (rdl a1.Cells x1).From) && (((rdl a0.Cells x1).Kind == (rdl a1.Cells x1).Kind) && (((rdl a0.Cells x1).K == (rdl a1.Cells x1).K) && true))) = true
        · rw [if_pos c11] at h
          refine .condF rfl (bnotF c11) ?_
          refine .skip ?_
          refine .inBlock ?_
          refine .reg0 rfl (.op 0 rfl (mvV rfl) <| .op 0 rfl (addI rfl rfl) <| .op 0 rfl (asV rfl) <| .nil0) ?_
          refine .keepL [0, 1] [(2, .ptr 0 1 6 0 0), (3, .ptr 1 1 6 0 0), (5, .val (.int .i64 (IntKind.i64.wrap (x1 + 1))))] [⟨6, [(TWeight.lit a0)], 0, none⟩, ⟨6, [(TWeight.lit a1)], 0, none⟩] (by decide) (by decide) ⟨.ptr rfl, .ptr rfl, .free rfl rfl, trivial⟩ ⟨⟨_, rfl, bcBox (all2_free rfl)⟩, ⟨_, rfl, bcBox (all2_free rfl)⟩, trivial⟩ ?_
          exact hn1 _ h
        · rw [if_neg c11] at h
          refine .condT rfl (bnotT (Bool.eq_false_iff.mpr c11)) ?_
          refine .seq ?_
          refine .reg0 rfl (.op 0 rfl (asV rfl) <| .nil0) ?_
          have q3 := hr1 _ h
          replace q3 := q3.symm
          subst q3
          refine .keepL [] [(4, .val (.bool false))] [] (by decide) (by decide) ⟨.free rfl rfl, trivial⟩ trivial ?_
          exact .ret rfl
      · rw [if_neg c10] at h
        refine .condF rfl (decide_eq_false c10) ?_
        refine .exit rfl ?_
        refine .keepL [0, 1] [(2, .ptr 0 1 6 0 0), (3, .ptr 1 1 6 0 0)] [⟨6, [(TWeight.lit a0)], 0, none⟩, ⟨6, [(TWeight.lit a1)], 0, none⟩] (by decide) (by decide) ⟨.ptr rfl, .ptr rfl, trivial⟩ ⟨⟨_, rfl, bcBox (all2_free rfl)⟩, ⟨_, rfl, bcBox (all2_free rfl)⟩, trivial⟩ ?_
        exact hx1 _ h
def r05_Same.fN : Nat → TWeight → TWeight → Bool → Prop
  | 0 => fun _ _ _ => False
  | n + 1 => r05_Same.step (r05_Same.fN n)
theorem r05_Same.ND : ∀ (n : Nat) {a0 : TWeight} {a1 : TWeight} {r : Bool} (h : r05_Same.fN n a0 a1 r), D Try.prog X (.callH 15 [.agg (TWeight.lit a0), .agg (TWeight.lit a1)] [] (.val (.bool r)) [])
  | 0, _, _, _, h => h.elim
  | n + 1, _, _, _, h => r05_Same.stepD (fun _ _ _ h => r05_Same.ND n h) h
def r05_Same.f (a0 : TWeight) (a1 : TWeight) (r : Bool) : Prop := ∃ n, r05_Same.fN n a0 a1 r
theorem r05_Same.D {a0 : TWeight} {a1 : TWeight} {r : Bool} (h : r05_Same.f a0 a1 r) : D Try.prog X (.callH 15 [.agg (TWeight.lit a0), .agg (TWeight.lit a1)] [] (.val (.bool r)) []) := by obtain ⟨n, h⟩ := h; exact r05_Same.ND n h
end Go.RM.Try
