/- GH, for the statement QueryOnes: what it needs, no more. -/
import Derived.Test.YtphfgnecmgpnaaaZQueryOnesGG
set_option linter.unusedVariables false
set_option maxRecDepth 8000
set_option maxHeartbeats 4000000
namespace Go.RM.Try
open Go.RM Go.Proofs
variable {X : FuncId → List PV → Heap → PV → Heap → Prop}
def r14_One.b1 (a0 : TPds) (a1 : TConf) : ((List TTrans) × Int × Int) → Rnd (((List TTrans) × Int × Int)) (((List TTrans) × Int)) (TAuto × Int) → Prop := fun (x3, x4, x5) z1 => if x5 < (a1.W.length : Int) then (((InR x5 a1.W.length)) ∧ ∃ t18_14 : TWeight, (r10_One.f a0.Space t18_14) ∧ ((Fits (x3.length + 1) 120)) ∧ z1 = .next ((x3 ++ [(TTrans.mk x4 (rdl a1.W x5) (IntKind.i64.wrap (a0.States + x5)) t18_14)]), (IntKind.i64.wrap (a0.States + x5)), (IntKind.i64.wrap (x5 + 1)))) else (z1 = .exit (x3, x4))
def r14_One.f (a0 : TPds) (a1 : TConf) (r : TAuto × Int) : Prop :=
  ∃ t2_2 : Int, (r12_Check.f a0 a1 t2_2) ∧ if t2_2 = 0 then (if (IntKind.i64.wrap (a0.States + (a1.W.length : Int))) > 4096 then (r = ((TAuto.mk (TSpace.mk 0 0 []) 0 0 [] []), 3)) else (∃ o1 : Fin (((List TTrans) × Int)) (TAuto × Int), Loop (r14_One.b1 a0 a1) ([], a1.P, 0) o1 ∧ o1.on (fun (x6, x7) => r = ((TAuto.mk a0.Space (IntKind.i64.wrap (a0.States + (a1.W.length : Int))) a0.Symbols [x7] x6), 0)) (fun r_ => r = r_))) else (r = ((TAuto.mk (TSpace.mk 0 0 []) 0 0 [] []), t2_2))
theorem r14_One.D {a0 : TPds} {a1 : TConf} {r : TAuto × Int} (h : r14_One.f a0 a1 r) : D Try.prog X (.callH 7 [.agg (TPds.lit a0), .agg (TConf.lit a1)] [] (.tuple [.agg (TAuto.lit r.1), .val (.int .i64 r.2)]) []) := by
  unfold r14_One.f at h
  refine .enter 72 0 fn7 rfl rfl rfl ?_
  refine .seq ?_
  refine .room 0 ?_
  refine .room 0 ?_
  refine .room 0 ?_
  refine .reg0 rfl (.op 0 rfl (bxP (s := 6) (cs := (TPds.lit a0)) rfl ⟨rfl, by decide, rfl⟩ rfl) <| .op 1 rfl (bxP (s := 2) (cs := (TConf.lit a1)) rfl ⟨rfl, by decide, rfl⟩ rfl) <| .op 2 rfl (alP (s := 7) ze35 ⟨rfl, by decide, rfl⟩ rfl) <| .op 0 rfl (asV rfl) <| .nil0) ?_
  refine .seq ?_
  obtain ⟨t2_2, g2_2, h⟩ := h
  refine .reg0 rfl (.op 0 rfl (ldG rfl sz28 ag28 rfl) <| .op 0 rfl (ldG rfl sz31 ag31 rfl) <| .callI rfl (callee_of rfl go9 rfl) (.pure rfl rfl (r12_Check.D g2_2)) <| .op 0 rfl (asV rfl) <| .nil0) ?_
  refine .seq ?_
  refine .seq ?_
  refine .reg0 rfl (.op 0 rfl (mvV rfl) <| .op 0 rfl (neI rfl rfl) <| .nil0) ?_
  by_cases c1 : t2_2 = 0
  · rw [if_pos c1] at h
    refine .condF rfl (bne_eq_false_iff_eq.mpr c1) ?_
    refine .skip ?_
    refine .seq ?_
    refine .seq ?_
    refine .reg0 rfl (.op 0 rfl (faP fa28_1 rfl) <| .op 0 rfl (ldP rfl sz3 ag3 rfl) <| .op 0 rfl (faP fa31_1 rfl) <| .op 0 rfl (ldP rfl sz29 ag29 rfl) <| .op 0 rfl (lnR (l := a1.W) sl29 rfl) <| .op 0 rfl (addI rfl rfl) <| .op 0 rfl (gtI rfl rfl) <| .nil0) ?_
    by_cases c2 : (IntKind.i64.wrap (a0.States + (a1.W.length : Int))) > 4096
    · rw [if_pos c2] at h
      refine .condT rfl (decide_eq_true c2) ?_
      refine .seq ?_
      refine .reg0 rfl (.op 0 rfl (bldS (cs := [.val (.int .i64 0), .val (.int .i64 0), .val (.slice none 0 0), .val (.int .i64 0), .val (.int .i64 0), .val (.slice none 0 0), .val (.slice none 0 0)]) ze35 pl35 rfl rfl) <| .op 0 rfl (stB (cs0 := [.val (.int .i64 0), .val (.int .i64 0), .val (.slice none 0 0), .val (.int .i64 0), .val (.int .i64 0), .val (.slice none 0 0), .val (.slice none 0 0)]) (cs := [.val (.int .i64 0), .val (.int .i64 0), .val (.slice none 0 0), .val (.int .i64 0), .val (.int .i64 0), .val (.slice none 0 0), .val (.slice none 0 0)]) (cs1 := [.val (.int .i64 0), .val (.int .i64 0), .val (.slice none 0 0), .val (.int .i64 0), .val (.int .i64 0), .val (.slice none 0 0), .val (.slice none 0 0)]) rfl rfl sz35 rfl ⟨Nat.le_of_ble_eq_true rfl, rfl⟩ rfl) <| .op 0 rfl (asV rfl) <| .nil0) ?_
      replace h := h.symm
      subst h
      refine .keepL [] [(4, .cptr [.val (.int .i64 0), .val (.int .i64 0), .rows (([] : List TSpace).map TSpace.cells), .val (.int .i64 0), .val (.int .i64 0), .rows (([] : List Int).map (cInt .i64)), .rows (([] : List TTrans).map TTrans.cells)] 0), (5, .val (.int .i64 3))] [] (by decide) (by decide) ⟨cFixP rfl rfl (.cons (.free rfl rfl) <| .cons (.free rfl rfl) <| .cons (.nil) <| .cons (.free rfl rfl) <| .cons (.free rfl rfl) <| .cons (.nil) <| .cons (.nil) <| .nil), .free rfl rfl, trivial⟩ trivial ?_
      exact .ret rfl
    · rw [if_neg c2] at h
      refine .condF rfl (decide_eq_false c2) ?_
      refine .skip ?_
      refine .seq ?_
      refine .room 0 ?_
      refine .reg0 rfl (.op 0 rfl (faP fa28_0 rfl) <| .op 0 rfl (ldG rfl sz25 ag25 rfl) <| .op 0 rfl (faP fa28_1 rfl) <| .op 0 rfl (ldP rfl sz3 ag3 rfl) <| .op 0 rfl (faP fa31_1 rfl) <| .op 0 rfl (ldP rfl sz29 ag29 rfl) <| .op 0 rfl (lnR (l := a1.W) sl29 rfl) <| .op 0 rfl (addI rfl rfl) <| .op 0 rfl (faP fa28_2 rfl) <| .op 0 rfl (ldP rfl sz3 ag3 rfl) <| .op 0 rfl (bldS (cs := [.val (.int .i64 a0.Space.Tag), .val (.int .i64 a0.Space.Dim), .rows (a0.Space.Parts.map TSpace.cells), .val (.int .i64 (IntKind.i64.wrap (a0.States + (a1.W.length : Int)))), .val (.int .i64 a0.Symbols), .val (.slice none 0 0), .val (.slice none 0 0)]) ze35 pl35 rfl rfl) <| .op 3 rfl (alP (s := 7) ze35 ⟨rfl, by decide, rfl⟩ rfl) <| .op 0 rfl (stB (cs0 := [.val (.int .i64 0), .val (.int .i64 0), .val (.slice none 0 0), .val (.int .i64 0), .val (.int .i64 0), .val (.slice none 0 0), .val (.slice none 0 0)]) (cs := [.val (.int .i64 a0.Space.Tag), .val (.int .i64 a0.Space.Dim), .rows (a0.Space.Parts.map TSpace.cells), .val (.int .i64 (IntKind.i64.wrap (a0.States + (a1.W.length : Int)))), .val (.int .i64 a0.Symbols), .val (.slice none 0 0), .val (.slice none 0 0)]) (cs1 := [.val (.int .i64 a0.Space.Tag), .val (.int .i64 a0.Space.Dim), .rows (a0.Space.Parts.map TSpace.cells), .val (.int .i64 (IntKind.i64.wrap (a0.States + (a1.W.length : Int)))), .val (.int .i64 a0.Symbols), .val (.slice none 0 0), .val (.slice none 0 0)]) rfl rfl sz35 rfl ⟨Nat.le_of_ble_eq_true rfl, rfl⟩ rfl) <| .nil0) ?_
      refine .seq ?_
      refine .reg0 rfl (.op 0 rfl (faP fa31_0 rfl) <| .op 0 rfl (ldP rfl sz3 ag3 rfl) <| .op 0 rfl (asV rfl) <| .nil0) ?_
      refine .seq ?_
      refine .seq ?_
      refine .reg0 rfl (.op 0 rfl (asV rfl) <| .nil0) ?_
      refine .block ?_
      refine .room 9 ?_
      refine .keepL [0, 1, 2, 3, 4] [(2, .ptr 0 1 6 0 0), (3, .ptr 1 1 2 0 0), (4, .ptr 2 1 7 0 0), (7, .ptr 3 1 7 0 0), (8, .val (.int .i64 a1.P)), (9, .val (.int .i64 0))] [⟨6, [(TPds.lit a0)], 0, none⟩, ⟨2, [(TConf.lit a1)], 0, none⟩, ⟨7, [[.val (.int .i64 0), .val (.int .i64 0), .val (.slice none 0 0), .val (.int .i64 0), .val (.int .i64 0), .val (.slice none 0 0), .val (.slice none 0 0)]], 0, none⟩, ⟨7, [[.val (.int .i64 a0.Space.Tag), .val (.int .i64 a0.Space.Dim), .rows (a0.Space.Parts.map TSpace.cells), .val (.int .i64 (IntKind.i64.wrap (a0.States + (a1.W.length : Int)))), .val (.int .i64 a0.Symbols), .val (.slice none 0 0), .own 4 0]], 0, none⟩, ⟨9, [].map TTrans.cells, 0, none⟩] (by decide) (by decide) ⟨.ptr rfl, .ptr rfl, .ptr rfl, .ptr rfl, .free rfl rfl, .free rfl rfl, trivial⟩ ⟨⟨_, rfl, bcBox (all2_free rfl)⟩, ⟨_, rfl, bcBox (all2_free rfl)⟩, ⟨_, rfl, bcBox (all2_free rfl)⟩, ⟨_, rfl, bcBox (.cons (.free rfl rfl) <| .cons (.free rfl rfl) <| .cons (.free rfl rfl) <| .cons (.free rfl rfl) <| .cons (.free rfl rfl) <| .cons (.free rfl rfl) <| .cons (.nilOwn) <| .nil)⟩, ⟨_, rfl, (bcRow (l := []) sl33 (Nat.le_refl _) rfl)⟩, trivial⟩ ?_
      obtain ⟨o1, hL1, h⟩ := h
      refine .loopB (r14_One.b1 a0 a1) (fun (x3, x4, x5) => listEnv [(2, .ptr 0 1 6 0 0), (3, .ptr 1 1 2 0 0), (4, .ptr 2 1 7 0 0), (7, .ptr 3 1 7 0 0), (8, .val (.int .i64 x4)), (9, .val (.int .i64 x5))]) (fun (x3, x4, x5) => [⟨6, [(TPds.lit a0)], 0, none⟩, ⟨2, [(TConf.lit a1)], 0, none⟩, ⟨7, [[.val (.int .i64 0), .val (.int .i64 0), .val (.slice none 0 0), .val (.int .i64 0), .val (.int .i64 0), .val (.slice none 0 0), .val (.slice none 0 0)]], 0, none⟩, ⟨7, [[.val (.int .i64 a0.Space.Tag), .val (.int .i64 a0.Space.Dim), .rows (a0.Space.Parts.map TSpace.cells), .val (.int .i64 (IntKind.i64.wrap (a0.States + (a1.W.length : Int)))), .val (.int .i64 a0.Symbols), .val (.slice none 0 0), .own 4 x3.length]], 0, none⟩, ⟨9, x3.map TTrans.cells, 0, none⟩]) (fun (x6, x7) => listEnv [(4, .ptr 0 1 7 0 0), (7, .ptr 1 1 7 0 0), (8, .val (.int .i64 x7))]) (fun (x6, x7) => [⟨7, [[.val (.int .i64 0), .val (.int .i64 0), .val (.slice none 0 0), .val (.int .i64 0), .val (.int .i64 0), .val (.slice none 0 0), .val (.slice none 0 0)]], 0, none⟩, ⟨7, [[.val (.int .i64 a0.Space.Tag), .val (.int .i64 a0.Space.Dim), .rows (a0.Space.Parts.map TSpace.cells), .val (.int .i64 (IntKind.i64.wrap (a0.States + (a1.W.length : Int)))), .val (.int .i64 a0.Symbols), .val (.slice none 0 0), .own 2 x6.length]], 0, none⟩, ⟨9, x6.map TTrans.cells, 0, none⟩]) hL1 (fun r_ => r = r_) ?_ ?_ ?_
      · rintro ⟨x6, x7⟩ rfl
        try dsimp only [Fin.on] at h
        refine .seq ?_
        refine .room 0 ?_
        refine .reg0 rfl (.op 0 rfl (mvV rfl) <| .op 3 rfl (bldL (s := 1) (cs := [.val (.int .i64 x7)]) un29 sz3 ze3 ⟨by decide, rfl, by decide⟩ rfl rfl rfl rfl) <| .op 0 rfl (faP fa35_3 rfl) <| .op 0 rfl (stB (cs0 := [.val (.int .i64 a0.Space.Tag), .val (.int .i64 a0.Space.Dim), .rows (a0.Space.Parts.map TSpace.cells), .val (.int .i64 (IntKind.i64.wrap (a0.States + (a1.W.length : Int)))), .val (.int .i64 a0.Symbols), .val (.slice none 0 0), .own 2 x6.length]) (cs := [.own 3 ([x7].length)]) (cs1 := [.val (.int .i64 a0.Space.Tag), .val (.int .i64 a0.Space.Dim), .rows (a0.Space.Parts.map TSpace.cells), .val (.int .i64 (IntKind.i64.wrap (a0.States + (a1.W.length : Int)))), .val (.int .i64 a0.Symbols), .own 3 ([x7].length), .own 2 x6.length]) rfl rfl sz29 rfl ⟨Nat.le_of_ble_eq_true rfl, rfl⟩ rfl) <| .nil0) ?_
        refine .seq ?_
        refine .reg0 rfl (.op 0 rfl (ldG rfl sz35 ag35 rfl) <| .op 0 rfl (stB (cs0 := [.val (.int .i64 0), .val (.int .i64 0), .val (.slice none 0 0), .val (.int .i64 0), .val (.int .i64 0), .val (.slice none 0 0), .val (.slice none 0 0)]) (cs := [.val (.int .i64 a0.Space.Tag), .val (.int .i64 a0.Space.Dim), .rows (a0.Space.Parts.map TSpace.cells), .val (.int .i64 (IntKind.i64.wrap (a0.States + (a1.W.length : Int)))), .val (.int .i64 a0.Symbols), .own 3 ([x7].length), .own 2 x6.length]) (cs1 := [.val (.int .i64 a0.Space.Tag), .val (.int .i64 a0.Space.Dim), .rows (a0.Space.Parts.map TSpace.cells), .val (.int .i64 (IntKind.i64.wrap (a0.States + (a1.W.length : Int)))), .val (.int .i64 a0.Symbols), .own 3 ([x7].length), .own 2 x6.length]) rfl rfl sz35 rfl ⟨Nat.le_of_ble_eq_true rfl, rfl⟩ rfl) <| .op 0 rfl (asV rfl) <| .nil0) ?_
        replace h := h.symm
        subst h
        refine .keepL [] [(4, .cptr [.val (.int .i64 a0.Space.Tag), .val (.int .i64 a0.Space.Dim), .rows (a0.Space.Parts.map TSpace.cells), .val (.int .i64 (IntKind.i64.wrap (a0.States + (a1.W.length : Int)))), .val (.int .i64 a0.Symbols), .rows ([x7].map (cInt .i64)), .rows (x6.map TTrans.cells)] 0), (5, .val (.int .i64 0))] [] (by decide) (by decide) ⟨cFixP rfl rfl (.cons (.free rfl rfl) <| .cons (.free rfl rfl) <| .cons (.free rfl rfl) <| .cons (.free rfl rfl) <| .cons (.free rfl rfl) <| .cons (cFixO (l := [x7]) sl29 rfl rfl rfl rfl) <| .cons (cFixO (l := x6) sl33 rfl rfl rfl rfl) <| .nil), .free rfl rfl, trivial⟩ trivial ?_
        exact .ret rfl
      · rintro r_ rfl
        exact h
      · rintro ⟨x3, x4, x5⟩ z1 h hn1 hx1 hr1
        dsimp only [r14_One.b1] at h
        refine .seq ?_
        refine .seq ?_
        refine .reg0 rfl (.op 0 rfl (mvV rfl) <| .op 0 rfl (faP fa31_1 rfl) <| .op 0 rfl (ldP rfl sz29 ag29 rfl) <| .op 0 rfl (lnR (l := a1.W) sl29 rfl) <| .op 0 rfl (ltI rfl rfl) <| .nil0) ?_
        by_cases c5 : x5 < (a1.W.length : Int)
        · rw [if_pos c5] at h
          refine .condT rfl (decide_eq_true c5) ?_
          refine .skip ?_
          refine .seq ?_
          refine .block ?_
          refine .seq ?_
          obtain ⟨g18_6, h⟩ := h
          obtain ⟨t18_14, g18_14, h⟩ := h
          obtain ⟨g18_17, h⟩ := h
          refine .room 0 ?_
          refine .room 0 ?_
          refine .reg1 (e1 := listEnv [(2, .ptr 0 1 6 0 0), (3, .ptr 1 1 2 0 0), (4, .ptr 2 1 7 0 0), (7, .ptr 3 1 7 0 0), (9, .val (.int .i64 x5))]) (H1 := [⟨6, [(TPds.lit a0)], 0, none⟩, ⟨2, [(TConf.lit a1)], 0, none⟩, ⟨7, [[.val (.int .i64 0), .val (.int .i64 0), .val (.slice none 0 0), .val (.int .i64 0), .val (.int .i64 0), .val (.slice none 0 0), .val (.slice none 0 0)]], 0, none⟩, ⟨7, [[.val (.int .i64 a0.Space.Tag), .val (.int .i64 a0.Space.Dim), .rows (a0.Space.Parts.map TSpace.cells), .val (.int .i64 (IntKind.i64.wrap (a0.States + (a1.W.length : Int)))), .val (.int .i64 a0.Symbols), .val (.slice none 0 0), .own 4 ((x3 ++ [(TTrans.mk x4 (rdl a1.W x5) (IntKind.i64.wrap (a0.States + x5)) t18_14)]).length)]], 0, none⟩, ⟨9, (x3 ++ [(TTrans.mk x4 (rdl a1.W x5) (IntKind.i64.wrap (a0.States + x5)) t18_14)]).map TTrans.cells, 0, none⟩, ⟨9, [(TTrans.mk x4 (rdl a1.W x5) (IntKind.i64.wrap (a0.States + x5)) t18_14)].map TTrans.cells, 0, none⟩, Blk.hole]) rfl ?_ ?_
          · exact .drawM [(18, 63, .ptr 3 1 7 0 6), (17, 62, .own 4 ((x3 ++ [(TTrans.mk x4 (rdl a1.W x5) (IntKind.i64.wrap (a0.States + x5)) t18_14)]).length)), (16, 61, .own 5 ([(TTrans.mk x4 (rdl a1.W x5) (IntKind.i64.wrap (a0.States + x5)) t18_14)].length)), (15, 60, .agg [.val (.int .i64 x4), .val (.int .i64 (rdl a1.W x5)), .val (.int .i64 (IntKind.i64.wrap (a0.States + x5))), .val (.bool t18_14.Zero), .val (.int .i64 t18_14.Cost), .val (.int .u64 t18_14.Facts.Gen), .rows (t18_14.Facts.Rows.map (cInt .u64)), .rows (t18_14.Cells.map TCell.cells), .rows (t18_14.Parts.map TWeight.cells)]), (14, 59, .agg (TWeight.lit t18_14)), (13, 58, .agg (TSpace.lit a0.Space)), (12, 57, .ptr 0 1 6 0 0), (11, 56, .val (.int .i64 (IntKind.i64.wrap (a0.States + x5)))), (10, 55, .val (.int .i64 x5)), (9, 54, .val (.int .i64 a0.States)), (8, 53, .ptr 0 1 6 0 3), (7, 52, .val (.int .i64 (rdl a1.W x5))), (6, 51, .cptr ((cInt .i64) (rdl a1.W x5)) 0), (5, 50, .val (.int .i64 x5)), (4, 49, .rows (a1.W.map (cInt .i64))), (3, 48, .ptr 1 1 2 0 1), (2, 47, .val (.int .i64 x4)), (1, 46, .own 4 x3.length), (0, 45, .ptr 3 1 7 0 6)] [(19, 3, ⟨7, [[.val (.int .i64 a0.Space.Tag), .val (.int .i64 a0.Space.Dim), .rows (a0.Space.Parts.map TSpace.cells), .val (.int .i64 (IntKind.i64.wrap (a0.States + (a1.W.length : Int)))), .val (.int .i64 a0.Symbols), .val (.slice none 0 0), .own 4 ((x3 ++ [(TTrans.mk x4 (rdl a1.W x5) (IntKind.i64.wrap (a0.States + x5)) t18_14)]).length)]], 0, none⟩), (17, 4, ⟨9, (x3 ++ [(TTrans.mk x4 (rdl a1.W x5) (IntKind.i64.wrap (a0.States + x5)) t18_14)]).map TTrans.cells, 0, none⟩), (16, 5, ⟨9, [(TTrans.mk x4 (rdl a1.W x5) (IntKind.i64.wrap (a0.States + x5)) t18_14)].map TTrans.cells, 0, none⟩)] [[], [0], [], [], [3], [], [4, 3, 5], [6, 4, 3, 5], [], [8], [], [9, 8, 10], [], [12], [13, 12], [2, 7, 6, 4, 3, 5, 11, 9, 8, 10, 14, 13, 12], [15, 2, 7, 6, 4, 3, 5, 11, 9, 8, 10, 14, 13, 12], [1, 0, 16, 15, 2, 7, 6, 4, 3, 5, 11, 9, 8, 10, 14, 13, 12], [0, 1, 2, 3, 4, 5, 6, 7, 8, 9, 10, 11, 12, 13, 14, 15, 16, 17], [18, 0, 1, 2, 3, 4, 5, 6, 7, 8, 9, 10, 11, 12, 13, 14, 15, 16, 17]] (by rfl) (by rfl) (by rfl) (by exact ⟨fun S hS hD hn => .one 0 hS hD hn rfl rfl (faP fa35_4 rfl) rfl rfl rfl, fun S hS hD hn => .one 0 hS hD hn rfl rfl (ldP rfl sz33 ag33 rfl) rfl rfl rfl, fun S hS hD hn => .one 0 hS hD hn rfl rfl (mvV rfl) rfl rfl rfl, fun S hS hD hn => .one 0 hS hD hn rfl rfl (faP fa31_1 rfl) rfl rfl rfl, fun S hS hD hn => .one 0 hS hD hn rfl rfl (ldP rfl sz29 ag29 rfl) rfl rfl rfl, fun S hS hD hn => .one 0 hS hD hn rfl rfl (mvV rfl) rfl rfl rfl, fun S hS hD hn => .one 0 hS hD hn rfl rfl (ixR (l := a1.W) (lit := (cInt .i64)) sl29 rfl rfl (fun _ => rfl) g18_6.1 g18_6.2) rfl rfl rfl, fun S hS hD hn => .one 0 hS hD hn rfl rfl (ldC rfl sz3 ag3 rfl) rfl rfl rfl, fun S hS hD hn => .one 0 hS hD hn rfl rfl (faP fa28_1 rfl) rfl rfl rfl, fun S hS hD hn => .one 0 hS hD hn rfl rfl (ldP rfl sz3 ag3 rfl) rfl rfl rfl, fun S hS hD hn => .one 0 hS hD hn rfl rfl (mvV rfl) rfl rfl rfl, fun S hS hD hn => .one 0 hS hD hn rfl rfl (addI rfl rfl) rfl rfl rfl, fun S hS hD hn => .one 0 hS hD hn rfl rfl (faP fa28_0 rfl) rfl rfl rfl, fun S hS hD hn => .one 0 hS hD hn rfl rfl (ldG rfl sz25 ag25 rfl) rfl rfl rfl, fun S hS hD hn => .oneI hS hD hn rfl rfl (callee_of rfl go13 rfl) (.pure rfl rfl (r10_One.D g18_14)) rfl rfl rfl, fun S hS hD hn => .one 0 hS hD hn rfl rfl (bldS (cs := [.val (.int .i64 x4), .val (.int .i64 (rdl a1.W x5)), .val (.int .i64 (IntKind.i64.wrap (a0.States + x5))), .val (.bool t18_14.Zero), .val (.int .i64 t18_14.Cost), .val (.int .u64 t18_14.Facts.Gen), .rows (t18_14.Facts.Rows.map (cInt .u64)), .rows (t18_14.Cells.map TCell.cells), .rows (t18_14.Parts.map TWeight.cells)]) ze59 pl59 rfl rfl) rfl rfl rfl, fun S hS hD hn => .one 5 hS hD hn rfl rfl (bldL (s := 9) (cs := [.val (.int .i64 x4), .val (.int .i64 (rdl a1.W x5)), .val (.int .i64 (IntKind.i64.wrap (a0.States + x5))), .val (.bool t18_14.Zero), .val (.int .i64 t18_14.Cost), .val (.int .u64 t18_14.Facts.Gen), .rows (t18_14.Facts.Rows.map (cInt .u64)), .rows (t18_14.Cells.map TCell.cells), .rows (t18_14.Parts.map TWeight.cells)]) un33 sz59 ze59 ⟨by decide, rfl, by decide⟩ rfl rfl rfl rfl) rfl rfl rfl, fun S hS hD hn => .one 0 hS hD hn rfl rfl (ap1 (l := x3) (TTrans.mk x4 (rdl a1.W x5) (IntKind.i64.wrap (a0.States + x5)) t18_14) sl33 rfl rfl rfl (Nat.zero_le _) (elems_own (l := [(TTrans.mk x4 (rdl a1.W x5) (IntKind.i64.wrap (a0.States + x5)) t18_14)]) rfl rfl) g18_17) rfl rfl rfl, fun S hS hD hn => .one 0 hS hD hn rfl rfl (faP fa35_4 rfl) rfl rfl rfl, fun S hS hD hn => .one0 0 rfl rfl (stB (cs0 := [.val (.int .i64 a0.Space.Tag), .val (.int .i64 a0.Space.Dim), .rows (a0.Space.Parts.map TSpace.cells), .val (.int .i64 (IntKind.i64.wrap (a0.States + (a1.W.length : Int)))), .val (.int .i64 a0.Symbols), .val (.slice none 0 0), .own 4 x3.length]) (cs := [.own 4 ((x3 ++ [(TTrans.mk x4 (rdl a1.W x5) (IntKind.i64.wrap (a0.States + x5)) t18_14)]).length)]) (cs1 := [.val (.int .i64 a0.Space.Tag), .val (.int .i64 a0.Space.Dim), .rows (a0.Space.Parts.map TSpace.cells), .val (.int .i64 (IntKind.i64.wrap (a0.States + (a1.W.length : Int)))), .val (.int .i64 a0.Symbols), .val (.slice none 0 0), .own 4 ((x3 ++ [(TTrans.mk x4 (rdl a1.W x5) (IntKind.i64.wrap (a0.States + x5)) t18_14)]).length)]) rfl rfl sz33 rfl ⟨Nat.le_of_ble_eq_true rfl, rfl⟩ rfl) (drawE_other _ _ _ _ rfl) rfl, trivial⟩) _ (by exact ⟨.ptr rfl, .ptr rfl, .ptr rfl, .ptr rfl, .free rfl rfl, trivial⟩) (by rfl)
          refine .reg0 rfl (.op 0 rfl (faP fa28_1 rfl) <| .op 0 rfl (ldP rfl sz3 ag3 rfl) <| .op 0 rfl (mvV rfl) <| .op 0 rfl (addI rfl rfl) <| .op 0 rfl (asV rfl) <| .nil0) ?_
          refine .inBlock ?_
          refine .reg0 rfl (.op 0 rfl (mvV rfl) <| .op 0 rfl (addI rfl rfl) <| .op 0 rfl (asV rfl) <| .nil0) ?_
          refine .keepL [0, 1, 2, 3, 4] [(2, .ptr 0 1 6 0 0), (3, .ptr 1 1 2 0 0), (4, .ptr 2 1 7 0 0), (7, .ptr 3 1 7 0 0), (8, .val (.int .i64 (IntKind.i64.wrap (a0.States + x5)))), (9, .val (.int .i64 (IntKind.i64.wrap (x5 + 1))))] [⟨6, [(TPds.lit a0)], 0, none⟩, ⟨2, [(TConf.lit a1)], 0, none⟩, ⟨7, [[.val (.int .i64 0), .val (.int .i64 0), .val (.slice none 0 0), .val (.int .i64 0), .val (.int .i64 0), .val (.slice none 0 0), .val (.slice none 0 0)]], 0, none⟩, ⟨7, [[.val (.int .i64 a0.Space.Tag), .val (.int .i64 a0.Space.Dim), .rows (a0.Space.Parts.map TSpace.cells), .val (.int .i64 (IntKind.i64.wrap (a0.States + (a1.W.length : Int)))), .val (.int .i64 a0.Symbols), .val (.slice none 0 0), .own 4 ((x3 ++ [(TTrans.mk x4 (rdl a1.W x5) (IntKind.i64.wrap (a0.States + x5)) t18_14)]).length)]], 0, none⟩, ⟨9, (x3 ++ [(TTrans.mk x4 (rdl a1.W x5) (IntKind.i64.wrap (a0.States + x5)) t18_14)]).map TTrans.cells, 0, none⟩] (by decide) (by decide) ⟨.ptr rfl, .ptr rfl, .ptr rfl, .ptr rfl, .free rfl rfl, .free rfl rfl, trivial⟩ ⟨⟨_, rfl, bcBox (all2_free rfl)⟩, ⟨_, rfl, bcBox (all2_free rfl)⟩, ⟨_, rfl, bcBox (all2_free rfl)⟩, ⟨_, rfl, bcBox (.cons (.free rfl rfl) <| .cons (.free rfl rfl) <| .cons (.free rfl rfl) <| .cons (.free rfl rfl) <| .cons (.free rfl rfl) <| .cons (.free rfl rfl) <| .cons (.own rfl) <| .nil)⟩, ⟨_, rfl, bcRow (l := (x3 ++ [(TTrans.mk x4 (rdl a1.W x5) (IntKind.i64.wrap (a0.States + x5)) t18_14)])) sl33 (Nat.le_refl _) rfl⟩, trivial⟩ ?_
          exact hn1 _ h
        · rw [if_neg c5] at h
          refine .condF rfl (decide_eq_false c5) ?_
          refine .exit rfl ?_
          refine .keepL [2, 3, 4] [(4, .ptr 0 1 7 0 0), (7, .ptr 1 1 7 0 0), (8, .val (.int .i64 x4))] [⟨7, [[.val (.int .i64 0), .val (.int .i64 0), .val (.slice none 0 0), .val (.int .i64 0), .val (.int .i64 0), .val (.slice none 0 0), .val (.slice none 0 0)]], 0, none⟩, ⟨7, [[.val (.int .i64 a0.Space.Tag), .val (.int .i64 a0.Space.Dim), .rows (a0.Space.Parts.map TSpace.cells), .val (.int .i64 (IntKind.i64.wrap (a0.States + (a1.W.length : Int)))), .val (.int .i64 a0.Symbols), .val (.slice none 0 0), .own 2 x3.length]], 0, none⟩, ⟨9, x3.map TTrans.cells, 0, none⟩] (by decide) (by decide) ⟨.ptr rfl, .ptr rfl, .free rfl rfl, trivial⟩ ⟨⟨_, rfl, bcBox (all2_free rfl)⟩, ⟨_, rfl, bcBox (.cons (.free rfl rfl) <| .cons (.free rfl rfl) <| .cons (.free rfl rfl) <| .cons (.free rfl rfl) <| .cons (.free rfl rfl) <| .cons (.free rfl rfl) <| .cons (.own rfl) <| .nil)⟩, ⟨_, rfl, bcRow (l := x3) sl33 (Nat.le_refl _) rfl⟩, trivial⟩ ?_
          exact hx1 _ h
  · rw [if_neg c1] at h
    refine .condT rfl (bne_iff_ne.mpr c1) ?_
    refine .seq ?_
    refine .reg0 rfl (.op 0 rfl (bldS (cs := [.val (.int .i64 0), .val (.int .i64 0), .val (.slice none 0 0), .val (.int .i64 0), .val (.int .i64 0), .val (.slice none 0 0), .val (.slice none 0 0)]) ze35 pl35 rfl rfl) <| .op 0 rfl (mvV rfl) <| .op 0 rfl (stB (cs0 := [.val (.int .i64 0), .val (.int .i64 0), .val (.slice none 0 0), .val (.int .i64 0), .val (.int .i64 0), .val (.slice none 0 0), .val (.slice none 0 0)]) (cs := [.val (.int .i64 0), .val (.int .i64 0), .val (.slice none 0 0), .val (.int .i64 0), .val (.int .i64 0), .val (.slice none 0 0), .val (.slice none 0 0)]) (cs1 := [.val (.int .i64 0), .val (.int .i64 0), .val (.slice none 0 0), .val (.int .i64 0), .val (.int .i64 0), .val (.slice none 0 0), .val (.slice none 0 0)]) rfl rfl sz35 rfl ⟨Nat.le_of_ble_eq_true rfl, rfl⟩ rfl) <| .op 0 rfl (asV rfl) <| .nil0) ?_
    replace h := h.symm
    subst h
    refine .keepL [] [(4, .cptr [.val (.int .i64 0), .val (.int .i64 0), .rows (([] : List TSpace).map TSpace.cells), .val (.int .i64 0), .val (.int .i64 0), .rows (([] : List Int).map (cInt .i64)), .rows (([] : List TTrans).map TTrans.cells)] 0), (5, .val (.int .i64 t2_2))] [] (by decide) (by decide) ⟨cFixP rfl rfl (.cons (.free rfl rfl) <| .cons (.free rfl rfl) <| .cons (.nil) <| .cons (.free rfl rfl) <| .cons (.free rfl rfl) <| .cons (.nil) <| .cons (.nil) <| .nil), .free rfl rfl, trivial⟩ trivial ?_
    exact .ret rfl
def r05_SameSpace.b1 (self21 : TSpace → TSpace → Bool → Prop) (a0 : TSpace) (a1 : TSpace) : Int → Rnd Int Unit Bool → Prop := fun x1 z1 => if x1 < (a0.Parts.length : Int) then (((InR x1 a0.Parts.length)) ∧ ((InR x1 a1.Parts.length)) ∧ ∃ t14_10 : Bool, (self21 (rdl a0.Parts x1) (rdl a1.Parts x1) t14_10) ∧ if t14_10 = true then (z1 = .next (IntKind.i64.wrap (x1 + 1))) else (z1 = .ret false)) else (z1 = .exit ())
def r05_SameSpace.step (self21 : TSpace → TSpace → Bool → Prop) (a0 : TSpace) (a1 : TSpace) (r : Bool) : Prop :=
  if ((!(a0.Tag == a1.Tag)) || ((!(a0.Dim == a1.Dim)) || ((a0.Parts.length : Int) != (a1.Parts.length : Int)))) = true then (r = false) else (∃ o1 : Fin Unit Bool, Loop (r05_SameSpace.b1 self21 a0 a1) 0 o1 ∧ o1.on (fun _ => r = true) (fun r_ => r = r_))
theorem r05_SameSpace.stepD {self21 : TSpace → TSpace → Bool → Prop} {a0 : TSpace} {a1 : TSpace} (hs21 : ∀ z0_ z1_ r_, self21 z0_ z1_ r_ → D Try.prog X (.callH 21 [.agg (TSpace.lit z0_), .agg (TSpace.lit z1_)] [] (.val (.bool r_)) [])) {r : Bool} (h : r05_SameSpace.step self21 a0 a1 r) : D Try.prog X (.callH 21 [.agg (TSpace.lit a0), .agg (TSpace.lit a1)] [] (.val (.bool r)) []) := by
  unfold r05_SameSpace.step at h
  refine .enter 46 0 fn21 rfl rfl rfl ?_
  refine .seq ?_
  refine .room 0 ?_
  refine .room 0 ?_
  refine .reg0 rfl (.op 0 rfl (bxP (s := 3) (cs := (TSpace.lit a0)) rfl ⟨rfl, by decide, rfl⟩ rfl) <| .op 1 rfl (bxP (s := 3) (cs := (TSpace.lit a1)) rfl ⟨rfl, by decide, rfl⟩ rfl) <| .op 0 rfl (asV rfl) <| .nil0) ?_
  refine .seq ?_
  refine .seq ?_
  refine .reg0 (e1 := listEnv [(2, .ptr 0 1 3 0 0), (3, .ptr 1 1 3 0 0), (26, .val (.bool ((!(a0.Tag == a1.Tag)) || ((!(a0.Dim == a1.Dim)) || ((a0.Parts.length : Int) != (a1.Parts.length : Int))))))]) (H1 := [⟨3, [(TSpace.lit a0)], 0, none⟩, ⟨3, [(TSpace.lit a1)], 0, none⟩]) rfl ?_ ?_
  · by_cases c1 : a0.Tag = a1.Tag
    · by_cases c2 : a0.Dim = a1.Dim
      · exact (.op 0 rfl (faP fa25_0 rfl) <| .op 0 rfl (ldP rfl sz22 ag22 rfl) <| .op 0 rfl (faP fa25_0 rfl) <| .op 0 rfl (ldP rfl sz22 ag22 rfl) <| .op 0 rfl (neI rfl rfl) <| .op 0 rfl (mvV rfl) <| .op 0 (gT rfl rfl rfl (bne_eq_false_iff_eq.mpr c1)) (faP fa25_1 rfl) <| .op 0 (gT rfl rfl rfl (bne_eq_false_iff_eq.mpr c1)) (ldP rfl sz3 ag3 rfl) <| .op 0 (gT rfl rfl rfl (bne_eq_false_iff_eq.mpr c1)) (faP fa25_1 rfl) <| .op 0 (gT rfl rfl rfl (bne_eq_false_iff_eq.mpr c1)) (ldP rfl sz3 ag3 rfl) <| .op 0 (gT rfl rfl rfl (bne_eq_false_iff_eq.mpr c1)) (neI rfl rfl) <| .op 0 rfl (pkFV rfl (bne_eq_false_iff_eq.mpr c1) rfl) <| .op 0 rfl (mvV rfl) <| .op 0 (gT rfl rfl rfl (bne_eq_false_iff_eq.mpr c2)) (faP fa25_2 rfl) <| .op 0 (gT rfl rfl rfl (bne_eq_false_iff_eq.mpr c2)) (ldP rfl sz23 ag23 rfl) <| .op 0 (gT rfl rfl rfl (bne_eq_false_iff_eq.mpr c2)) (lnR (l := a0.Parts) sl23 rfl) <| .op 0 (gT rfl rfl rfl (bne_eq_false_iff_eq.mpr c2)) (faP fa25_2 rfl) <| .op 0 (gT rfl rfl rfl (bne_eq_false_iff_eq.mpr c2)) (ldP rfl sz23 ag23 rfl) <| .op 0 (gT rfl rfl rfl (bne_eq_false_iff_eq.mpr c2)) (lnR (l := a1.Parts) sl23 rfl) <| .op 0 (gT rfl rfl rfl (bne_eq_false_iff_eq.mpr c2)) (neI rfl rfl) <| .op 0 rfl (pkFV rfl (bne_eq_false_iff_eq.mpr c2) rfl) <| .nilL _ ⟨.ptr rfl, .ptr rfl, cB rfl (mOrF (bnotF (beq_iff_eq.mpr c1)) (mOrF (bnotF (beq_iff_eq.mpr c2)) rfl)), trivial⟩)
      · exact (.op 0 rfl (faP fa25_0 rfl) <| .op 0 rfl (ldP rfl sz22 ag22 rfl) <| .op 0 rfl (faP fa25_0 rfl) <| .op 0 rfl (ldP rfl sz22 ag22 rfl) <| .op 0 rfl (neI rfl rfl) <| .op 0 rfl (mvV rfl) <| .op 0 (gT rfl rfl rfl (bne_eq_false_iff_eq.mpr c1)) (faP fa25_1 rfl) <| .op 0 (gT rfl rfl rfl (bne_eq_false_iff_eq.mpr c1)) (ldP rfl sz3 ag3 rfl) <| .op 0 (gT rfl rfl rfl (bne_eq_false_iff_eq.mpr c1)) (faP fa25_1 rfl) <| .op 0 (gT rfl rfl rfl (bne_eq_false_iff_eq.mpr c1)) (ldP rfl sz3 ag3 rfl) <| .op 0 (gT rfl rfl rfl (bne_eq_false_iff_eq.mpr c1)) (neI rfl rfl) <| .op 0 rfl (pkFV rfl (bne_eq_false_iff_eq.mpr c1) rfl) <| .op 0 rfl (mvV rfl) <| .no (gF rfl rfl rfl (bne_iff_ne.mpr c2)) <| .no (gF rfl rfl rfl (bne_iff_ne.mpr c2)) <| .no (gF rfl rfl rfl (bne_iff_ne.mpr c2)) <| .no (gF rfl rfl rfl (bne_iff_ne.mpr c2)) <| .no (gF rfl rfl rfl (bne_iff_ne.mpr c2)) <| .no (gF rfl rfl rfl (bne_iff_ne.mpr c2)) <| .no (gF rfl rfl rfl (bne_iff_ne.mpr c2)) <| .op 0 rfl (pkTV rfl (bne_iff_ne.mpr c2) rfl) <| .nilL _ ⟨.ptr rfl, .ptr rfl, cB rfl (mOrF (bnotF (beq_iff_eq.mpr c1)) (mOrT (bnotT (beq_eq_false_iff_ne.mpr c2)))), trivial⟩)
    · exact (.op 0 rfl (faP fa25_0 rfl) <| .op 0 rfl (ldP rfl sz22 ag22 rfl) <| .op 0 rfl (faP fa25_0 rfl) <| .op 0 rfl (ldP rfl sz22 ag22 rfl) <| .op 0 rfl (neI rfl rfl) <| .op 0 rfl (mvV rfl) <| .no (gF rfl rfl rfl (bne_iff_ne.mpr c1)) <| .no (gF rfl rfl rfl (bne_iff_ne.mpr c1)) <| .no (gF rfl rfl rfl (bne_iff_ne.mpr c1)) <| .no (gF rfl rfl rfl (bne_iff_ne.mpr c1)) <| .no (gF rfl rfl rfl (bne_iff_ne.mpr c1)) <| .op 0 rfl (pkTV rfl (bne_iff_ne.mpr c1) rfl) <| .op 0 rfl (mvV rfl) <| .no (gF rfl rfl rfl rfl) <| .no (gF rfl rfl rfl rfl) <| .no (gF rfl rfl rfl rfl) <| .no (gF rfl rfl rfl rfl) <| .no (gF rfl rfl rfl rfl) <| .no (gF rfl rfl rfl rfl) <| .no (gF rfl rfl rfl rfl) <| .op 0 rfl (pkTV rfl rfl rfl) <| .nilL _ ⟨.ptr rfl, .ptr rfl, cB rfl (mOrT (bnotT (beq_eq_false_iff_ne.mpr c1))), trivial⟩)
  by_cases c3 : ((!(a0.Tag == a1.Tag)) || ((!(a0.Dim == a1.Dim)) || ((a0.Parts.length : Int) != (a1.Parts.length : Int)))) = true
  · rw [if_pos c3] at h
    refine .condT rfl c3 ?_
    refine .seq ?_
    refine .reg0 rfl (.op 0 rfl (asV rfl) <| .nil0) ?_
    replace h := h.symm
    subst h
    refine .keepL [] [(4, .val (.bool false))] [] (by decide) (by decide) ⟨.free rfl rfl, trivial⟩ trivial ?_
    exact .ret rfl
  · rw [if_neg c3] at h
    refine .condF rfl (Bool.eq_false_iff.mpr c3) ?_
    refine .skip ?_
    refine .seq ?_
    refine .seq ?_
    refine .reg0 rfl (.op 0 rfl (asV rfl) <| .nil0) ?_
    refine .block ?_
    refine .keepL [0, 1] [(2, .ptr 0 1 3 0 0), (3, .ptr 1 1 3 0 0), (5, .val (.int .i64 0))] [⟨3, [(TSpace.lit a0)], 0, none⟩, ⟨3, [(TSpace.lit a1)], 0, none⟩] (by decide) (by decide) ⟨.ptr rfl, .ptr rfl, .free rfl rfl, trivial⟩ ⟨⟨_, rfl, bcBox (all2_free rfl)⟩, ⟨_, rfl, bcBox (all2_free rfl)⟩, trivial⟩ ?_
    obtain ⟨o1, hL1, h⟩ := h
    refine .loopB (r05_SameSpace.b1 self21 a0 a1) (fun x1 => listEnv [(2, .ptr 0 1 3 0 0), (3, .ptr 1 1 3 0 0), (5, .val (.int .i64 x1))]) (fun x1 => [⟨3, [(TSpace.lit a0)], 0, none⟩, ⟨3, [(TSpace.lit a1)], 0, none⟩]) (fun _ => listEnv []) (fun _ => []) hL1 (fun r_ => r = r_) ?_ ?_ ?_
    · rintro ⟨⟩ rfl
      try dsimp only [Fin.on] at h
      refine .seq ?_
      refine .reg0 rfl (.op 0 rfl (asV rfl) <| .nil0) ?_
      replace h := h.symm
      subst h
      refine .keepL [] [(4, .val (.bool true))] [] (by decide) (by decide) ⟨.free rfl rfl, trivial⟩ trivial ?_
      exact .ret rfl
    · rintro r_ rfl
      exact h
    · rintro x1 z1 h hn1 hx1 hr1
      dsimp only [r05_SameSpace.b1] at h
      refine .seq ?_
      refine .seq ?_
      refine .reg0 rfl (.op 0 rfl (mvV rfl) <| .op 0 rfl (faP fa25_2 rfl) <| .op 0 rfl (ldP rfl sz23 ag23 rfl) <| .op 0 rfl (lnR (l := a0.Parts) sl23 rfl) <| .op 0 rfl (ltI rfl rfl) <| .nil0) ?_
      by_cases c8 : x1 < (a0.Parts.length : Int)
      · rw [if_pos c8] at h
        refine .condT rfl (decide_eq_true c8) ?_
        refine .skip ?_
        refine .seq ?_
        refine .block ?_
        refine .seq ?_
        obtain ⟨g14_3, h⟩ := h
        obtain ⟨g14_8, h⟩ := h
        obtain ⟨t14_10, g14_10, h⟩ := h
        refine .reg1 (e1 := listEnv [(2, .ptr 0 1 3 0 0), (3, .ptr 1 1 3 0 0), (5, .val (.int .i64 x1)), (45, .val (.bool (!t14_10)))]) (H1 := [⟨3, [(TSpace.lit a0)], 0, none⟩, ⟨3, [(TSpace.lit a1)], 0, none⟩]) rfl ?_ ?_
        · exact .drawM [(11, 45, .val (.bool (!t14_10))), (10, 44, .val (.bool t14_10)), (9, 43, .agg (TSpace.lit (rdl a1.Parts x1))), (8, 42, .cptr (TSpace.lit (rdl a1.Parts x1)) 0), (7, 41, .val (.int .i64 x1)), (6, 40, .rows (a1.Parts.map TSpace.cells)), (5, 39, .ptr 1 1 3 0 2), (4, 38, .agg (TSpace.lit (rdl a0.Parts x1))), (3, 37, .cptr (TSpace.lit (rdl a0.Parts x1)) 0), (2, 36, .val (.int .i64 x1)), (1, 35, .rows (a0.Parts.map TSpace.cells)), (0, 34, .ptr 0 1 3 0 2)] [] [[], [0], [], [1, 0, 2], [3, 1, 0, 2], [], [5], [], [6, 5, 7], [8, 6, 5, 7], [4, 3, 1, 0, 2, 9, 8, 6, 5, 7], [10, 4, 3, 1, 0, 2, 9, 8, 6, 5, 7]] (by rfl) (by rfl) (by rfl) (by exact ⟨fun S hS hD hn => .one 0 hS hD hn rfl rfl (faP fa25_2 rfl) rfl rfl rfl, fun S hS hD hn => .one 0 hS hD hn rfl rfl (ldP rfl sz23 ag23 rfl) rfl rfl rfl, fun S hS hD hn => .one 0 hS hD hn rfl rfl (mvV rfl) rfl rfl rfl, fun S hS hD hn => .one 0 hS hD hn rfl rfl (ixR (l := a0.Parts) (lit := TSpace.lit) sl23 rfl rfl TSpace.cells_lit g14_3.1 g14_3.2) rfl rfl rfl, fun S hS hD hn => .one 0 hS hD hn rfl rfl (ldCG rfl sz25 ag25 rfl) rfl rfl rfl, fun S hS hD hn => .one 0 hS hD hn rfl rfl (faP fa25_2 rfl) rfl rfl rfl, fun S hS hD hn => .one 0 hS hD hn rfl rfl (ldP rfl sz23 ag23 rfl) rfl rfl rfl, fun S hS hD hn => .one 0 hS hD hn rfl rfl (mvV rfl) rfl rfl rfl, fun S hS hD hn => .one 0 hS hD hn rfl rfl (ixR (l := a1.Parts) (lit := TSpace.lit) sl23 rfl rfl TSpace.cells_lit g14_8.1 g14_8.2) rfl rfl rfl, fun S hS hD hn => .one 0 hS hD hn rfl rfl (ldCG rfl sz25 ag25 rfl) rfl rfl rfl, fun S hS hD hn => .oneI hS hD hn rfl rfl (callee_of rfl go21 rfl) (.pure rfl rfl (hs21 _ _ _ g14_10)) rfl rfl rfl, fun S hS hD hn => .one 0 hS hD hn rfl rfl (notB rfl) rfl rfl rfl, trivial⟩) _ (by exact ⟨.ptr rfl, .ptr rfl, .free rfl rfl, .free rfl rfl, trivial⟩) (by rfl)
        by_cases c9 : t14_10 = true
        · rw [if_pos c9] at h
          refine .condF rfl (bnotF c9) ?_
          refine .skip ?_
          refine .inBlock ?_
          refine .reg0 rfl (.op 0 rfl (mvV rfl) <| .op 0 rfl (addI rfl rfl) <| .op 0 rfl (asV rfl) <| .nil0) ?_
          refine .keepL [0, 1] [(2, .ptr 0 1 3 0 0), (3, .ptr 1 1 3 0 0), (5, .val (.int .i64 (IntKind.i64.wrap (x1 + 1))))] [⟨3, [(TSpace.lit a0)], 0, none⟩, ⟨3, [(TSpace.lit a1)], 0, none⟩] (by decide) (by decide) ⟨.ptr rfl, .ptr rfl, .free rfl rfl, trivial⟩ ⟨⟨_, rfl, bcBox (all2_free rfl)⟩, ⟨_, rfl, bcBox (all2_free rfl)⟩, trivial⟩ ?_
          exact hn1 _ h
        · rw [if_neg c9] at h
          refine .condT rfl (bnotT (Bool.eq_false_iff.mpr c9)) ?_
          refine .seq ?_
          refine .reg0 rfl (.op 0 rfl (asV rfl) <| .nil0) ?_
          have q3 := hr1 _ h
          replace q3 := q3.symm
          subst q3
          refine .keepL [] [(4, .val (.bool false))] [] (by decide) (by decide) ⟨.free rfl rfl, trivial⟩ trivial ?_
          exact .ret rfl
      · rw [if_neg c8] at h
        refine .condF rfl (decide_eq_false c8) ?_
        refine .exit rfl ?_
        refine .keepL [] [] [] (by decide) (by decide) trivial trivial ?_
        exact hx1 _ h
def r05_SameSpace.fN : Nat → TSpace → TSpace → Bool → Prop
  | 0 => fun _ _ _ => False
  | n + 1 => r05_SameSpace.step (r05_SameSpace.fN n)
theorem r05_SameSpace.ND : ∀ (n : Nat) {a0 : TSpace} {a1 : TSpace} {r : Bool} (h : r05_SameSpace.fN n a0 a1 r), D Try.prog X (.callH 21 [.agg (TSpace.lit a0), .agg (TSpace.lit a1)] [] (.val (.bool r)) [])
  | 0, _, _, _, h => h.elim
  | n + 1, _, _, _, h => r05_SameSpace.stepD (fun _ _ _ h => r05_SameSpace.ND n h) h
def r05_SameSpace.f (a0 : TSpace) (a1 : TSpace) (r : Bool) : Prop := ∃ n, r05_SameSpace.fN n a0 a1 r
theorem r05_SameSpace.D {a0 : TSpace} {a1 : TSpace} {r : Bool} (h : r05_SameSpace.f a0 a1 r) : D Try.prog X (.callH 21 [.agg (TSpace.lit a0), .agg (TSpace.lit a1)] [] (.val (.bool r)) []) := by obtain ⟨n, h⟩ := h; exact r05_SameSpace.ND n h
def r05_Same.b1 (a0 : TWeight) (a1 : TWeight) : Int → Rnd Int Unit Bool → Prop := fun x1 z1 => if x1 < (a0.Cells.length : Int) then (((InR x1 a0.Cells.length)) ∧ ((InR x1 a1.Cells.length)) ∧ if (((rdl a0.Cells x1).From == (rdl a1.Cells x1).From) && (((rdl a0.Cells x1).Kind == (rdl a1.Cells x1).Kind) && (((rdl a0.Cells x1).K == (rdl a1.Cells x1).K) && true))) = true then (z1 = .next (IntKind.i64.wrap (x1 + 1))) else (z1 = .ret false)) else (z1 = .exit ())
def r05_Same.b2 (self12 : TWeight → TWeight → Bool → Prop) (a0 : TWeight) (a1 : TWeight) : Int → Rnd Int Unit Bool → Prop := fun x2 z2 => if x2 < (a0.Parts.length : Int) then (((InR x2 a0.Parts.length)) ∧ ((InR x2 a1.Parts.length)) ∧ ∃ t27_10 : Bool, (self12 (rdl a0.Parts x2) (rdl a1.Parts x2) t27_10) ∧ if t27_10 = true then (z2 = .next (IntKind.i64.wrap (x2 + 1))) else (z2 = .ret false)) else (z2 = .exit ())
def r05_Same.step (self12 : TWeight → TWeight → Bool → Prop) (a0 : TWeight) (a1 : TWeight) (r : Bool) : Prop :=
  ∃ t2_17 : Bool, ((a0.Zero = a1.Zero) → (a0.Cost = a1.Cost) → r03_Same.f a0.Facts a1.Facts t2_17) ∧ if ((!(a0.Zero == a1.Zero)) || ((!(a0.Cost == a1.Cost)) || ((!t2_17) || ((!((a0.Cells.length : Int) == (a1.Cells.length : Int))) || ((a0.Parts.length : Int) != (a1.Parts.length : Int)))))) = true then (r = false) else (∃ o1 : Fin Unit Bool, Loop (r05_Same.b1 a0 a1) 0 o1 ∧ o1.on (fun _ => ∃ o2 : Fin Unit Bool, Loop (r05_Same.b2 self12 a0 a1) 0 o2 ∧ o2.on (fun _ => r = true) (fun r_ => r = r_)) (fun r_ => r = r_))
theorem r05_Same.stepD {self12 : TWeight → TWeight → Bool → Prop} {a0 : TWeight} {a1 : TWeight} (hs12 : ∀ z0_ z1_ r_, self12 z0_ z1_ r_ → D Try.prog X (.callH 12 [.agg (TWeight.lit z0_), .agg (TWeight.lit z1_)] [] (.val (.bool r_)) [])) {r : Bool} (h : r05_Same.step self12 a0 a1 r) : D Try.prog X (.callH 12 [.agg (TWeight.lit a0), .agg (TWeight.lit a1)] [] (.val (.bool r)) []) := by
  unfold r05_Same.step at h
  refine .enter 82 0 fn12 rfl rfl rfl ?_
  refine .seq ?_
  refine .room 0 ?_
  refine .room 0 ?_
  refine .reg0 rfl (.op 0 rfl (bxP (s := 6) (cs := (TWeight.lit a0)) rfl ⟨rfl, by decide, rfl⟩ rfl) <| .op 1 rfl (bxP (s := 6) (cs := (TWeight.lit a1)) rfl ⟨rfl, by decide, rfl⟩ rfl) <| .op 0 rfl (asV rfl) <| .nil0) ?_
  refine .seq ?_
  refine .seq ?_
  obtain ⟨t2_17, g2_17, h⟩ := h
  refine .reg0 (e1 := listEnv [(2, .ptr 0 1 6 0 0), (3, .ptr 1 1 6 0 0), (44, .val (.bool ((!(a0.Zero == a1.Zero)) || ((!(a0.Cost == a1.Cost)) || ((!t2_17) || ((!((a0.Cells.length : Int) == (a1.Cells.length : Int))) || ((a0.Parts.length : Int) != (a1.Parts.length : Int))))))))]) (H1 := [⟨6, [(TWeight.lit a0)], 0, none⟩, ⟨6, [(TWeight.lit a1)], 0, none⟩]) rfl ?_ ?_
  · by_cases c1 : a0.Zero = a1.Zero
    · by_cases c2 : a0.Cost = a1.Cost
      · by_cases c3 : t2_17 = true
        · by_cases c4 : (a0.Cells.length : Int) = (a1.Cells.length : Int)
          · exact (.op 0 rfl (faP fa48_0 rfl) <| .op 0 rfl (ldP rfl sz4 ag4 rfl) <| .op 0 rfl (faP fa48_0 rfl) <| .op 0 rfl (ldP rfl sz4 ag4 rfl) <| .op 0 rfl (neB un4 rfl rfl) <| .op 0 rfl (mvV rfl) <| .op 0 (gT rfl rfl rfl (bne_eq_false_iff_eq.mpr c1)) (faP fa48_1 rfl) <| .op 0 (gT rfl rfl rfl (bne_eq_false_iff_eq.mpr c1)) (ldP rfl sz3 ag3 rfl) <| .op 0 (gT rfl rfl rfl (bne_eq_false_iff_eq.mpr c1)) (faP fa48_1 rfl) <| .op 0 (gT rfl rfl rfl (bne_eq_false_iff_eq.mpr c1)) (ldP rfl sz3 ag3 rfl) <| .op 0 (gT rfl rfl rfl (bne_eq_false_iff_eq.mpr c1)) (neI rfl rfl) <| .op 0 rfl (pkFV rfl (bne_eq_false_iff_eq.mpr c1) rfl) <| .op 0 rfl (mvV rfl) <| .op 0 (gT rfl rfl rfl (bne_eq_false_iff_eq.mpr c2)) (faP fa48_2 rfl) <| .op 0 (gT rfl rfl rfl (bne_eq_false_iff_eq.mpr c2)) (ldG rfl sz44 ag44 rfl) <| .op 0 (gT rfl rfl rfl (bne_eq_false_iff_eq.mpr c2)) (faP fa48_2 rfl) <| .op 0 (gT rfl rfl rfl (bne_eq_false_iff_eq.mpr c2)) (ldG rfl sz44 ag44 rfl) <| .callI (gT rfl rfl rfl (bne_eq_false_iff_eq.mpr c2)) (callee_of rfl go28 rfl) (.pure rfl rfl (r03_Same.D (g2_17 c1 c2))) <| .op 0 (gT rfl rfl rfl (bne_eq_false_iff_eq.mpr c2)) (notB rfl) <| .op 0 rfl (pkFV rfl (bne_eq_false_iff_eq.mpr c2) rfl) <| .op 0 rfl (mvV rfl) <| .op 0 (gT rfl rfl rfl (bnotF c3)) (faP fa48_3 rfl) <| .op 0 (gT rfl rfl rfl (bnotF c3)) (ldP rfl sz45 ag45 rfl) <| .op 0 (gT rfl rfl rfl (bnotF c3)) (lnR (l := a0.Cells) sl45 rfl) <| .op 0 (gT rfl rfl rfl (bnotF c3)) (faP fa48_3 rfl) <| .op 0 (gT rfl rfl rfl (bnotF c3)) (ldP rfl sz45 ag45 rfl) <| .op 0 (gT rfl rfl rfl (bnotF c3)) (lnR (l := a1.Cells) sl45 rfl) <| .op 0 (gT rfl rfl rfl (bnotF c3)) (neI rfl rfl) <| .op 0 rfl (pkFV rfl (bnotF c3) rfl) <| .op 0 rfl (mvV rfl) <| .op 0 (gT rfl rfl rfl (bne_eq_false_iff_eq.mpr c4)) (faP fa48_4 rfl) <| .op 0 (gT rfl rfl rfl (bne_eq_false_iff_eq.mpr c4)) (ldP rfl sz46 ag46 rfl) <| .op 0 (gT rfl rfl rfl (bne_eq_false_iff_eq.mpr c4)) (lnR (l := a0.Parts) sl46 rfl) <| .op 0 (gT rfl rfl rfl (bne_eq_false_iff_eq.mpr c4)) (faP fa48_4 rfl) <| .op 0 (gT rfl rfl rfl (bne_eq_false_iff_eq.mpr c4)) (ldP rfl sz46 ag46 rfl) <| .op 0 (gT rfl rfl rfl (bne_eq_false_iff_eq.mpr c4)) (lnR (l := a1.Parts) sl46 rfl) <| .op 0 (gT rfl rfl rfl (bne_eq_false_iff_eq.mpr c4)) (neI rfl rfl) <| .op 0 rfl (pkFV rfl (bne_eq_false_iff_eq.mpr c4) rfl) <| .nilL _ ⟨.ptr rfl, .ptr rfl, cB rfl (mOrF (bnotF (beq_iff_eq.mpr c1)) (mOrF (bnotF (beq_iff_eq.mpr c2)) (mOrF (bnotF c3) (mOrF (bnotF (beq_iff_eq.mpr c4)) rfl)))), trivial⟩)
          · exact (.op 0 rfl (faP fa48_0 rfl) <| .op 0 rfl (ldP rfl sz4 ag4 rfl) <| .op 0 rfl (faP fa48_0 rfl) <| .op 0 rfl (ldP rfl sz4 ag4 rfl) <| .op 0 rfl (neB un4 rfl rfl) <| .op 0 rfl (mvV rfl) <| .op 0 (gT rfl rfl rfl (bne_eq_false_iff_eq.mpr c1)) (faP fa48_1 rfl) <| .op 0 (gT rfl rfl rfl (bne_eq_false_iff_eq.mpr c1)) (ldP rfl sz3 ag3 rfl) <| .op 0 (gT rfl rfl rfl (bne_eq_false_iff_eq.mpr c1)) (faP fa48_1 rfl) <| .op 0 (gT rfl rfl rfl (bne_eq_false_iff_eq.mpr c1)) (ldP rfl sz3 ag3 rfl) <| .op 0 (gT rfl rfl rfl (bne_eq_false_iff_eq.mpr c1)) (neI rfl rfl) <| .op 0 rfl (pkFV rfl (bne_eq_false_iff_eq.mpr c1) rfl) <| .op 0 rfl (mvV rfl) <| .op 0 (gT rfl rfl rfl (bne_eq_false_iff_eq.mpr c2)) (faP fa48_2 rfl) <| .op 0 (gT rfl rfl rfl (bne_eq_false_iff_eq.mpr c2)) (ldG rfl sz44 ag44 rfl) <| .op 0 (gT rfl rfl rfl (bne_eq_false_iff_eq.mpr c2)) (faP fa48_2 rfl) <| .op 0 (gT rfl rfl rfl (bne_eq_false_iff_eq.mpr c2)) (ldG rfl sz44 ag44 rfl) <| .callI (gT rfl rfl rfl (bne_eq_false_iff_eq.mpr c2)) (callee_of rfl go28 rfl) (.pure rfl rfl (r03_Same.D (g2_17 c1 c2))) <| .op 0 (gT rfl rfl rfl (bne_eq_false_iff_eq.mpr c2)) (notB rfl) <| .op 0 rfl (pkFV rfl (bne_eq_false_iff_eq.mpr c2) rfl) <| .op 0 rfl (mvV rfl) <| .op 0 (gT rfl rfl rfl (bnotF c3)) (faP fa48_3 rfl) <| .op 0 (gT rfl rfl rfl (bnotF c3)) (ldP rfl sz45 ag45 rfl) <| .op 0 (gT rfl rfl rfl (bnotF c3)) (lnR (l := a0.Cells) sl45 rfl) <| .op 0 (gT rfl rfl rfl (bnotF c3)) (faP fa48_3 rfl) <| .op 0 (gT rfl rfl rfl (bnotF c3)) (ldP rfl sz45 ag45 rfl) <| .op 0 (gT rfl rfl rfl (bnotF c3)) (lnR (l := a1.Cells) sl45 rfl) <| .op 0 (gT rfl rfl rfl (bnotF c3)) (neI rfl rfl) <| .op 0 rfl (pkFV rfl (bnotF c3) rfl) <| .op 0 rfl (mvV rfl) <| .no (gF rfl rfl rfl (bne_iff_ne.mpr c4)) <| .no (gF rfl rfl rfl (bne_iff_ne.mpr c4)) <| .no (gF rfl rfl rfl (bne_iff_ne.mpr c4)) <| .no (gF rfl rfl rfl (bne_iff_ne.mpr c4)) <| .no (gF rfl rfl rfl (bne_iff_ne.mpr c4)) <| .no (gF rfl rfl rfl (bne_iff_ne.mpr c4)) <| .no (gF rfl rfl rfl (bne_iff_ne.mpr c4)) <| .op 0 rfl (pkTV rfl (bne_iff_ne.mpr c4) rfl) <| .nilL _ ⟨.ptr rfl, .ptr rfl, cB rfl (mOrF (bnotF (beq_iff_eq.mpr c1)) (mOrF (bnotF (beq_iff_eq.mpr c2)) (mOrF (bnotF c3) (mOrT (bnotT (beq_eq_false_iff_ne.mpr c4)))))), trivial⟩)
        · exact (.op 0 rfl (faP fa48_0 rfl) <| .op 0 rfl (ldP rfl sz4 ag4 rfl) <| .op 0 rfl (faP fa48_0 rfl) <| .op 0 rfl (ldP rfl sz4 ag4 rfl) <| .op 0 rfl (neB un4 rfl rfl) <| .op 0 rfl (mvV rfl) <| .op 0 (gT rfl rfl rfl (bne_eq_false_iff_eq.mpr c1)) (faP fa48_1 rfl) <| .op 0 (gT rfl rfl rfl (bne_eq_false_iff_eq.mpr c1)) (ldP rfl sz3 ag3 rfl) <| .op 0 (gT rfl rfl rfl (bne_eq_false_iff_eq.mpr c1)) (faP fa48_1 rfl) <| .op 0 (gT rfl rfl rfl (bne_eq_false_iff_eq.mpr c1)) (ldP rfl sz3 ag3 rfl) <| .op 0 (gT rfl rfl rfl (bne_eq_false_iff_eq.mpr c1)) (neI rfl rfl) <| .op 0 rfl (pkFV rfl (bne_eq_false_iff_eq.mpr c1) rfl) <| .op 0 rfl (mvV rfl) <| .op 0 (gT rfl rfl rfl (bne_eq_false_iff_eq.mpr c2)) (faP fa48_2 rfl) <| .op 0 (gT rfl rfl rfl (bne_eq_false_iff_eq.mpr c2)) (ldG rfl sz44 ag44 rfl) <| .op 0 (gT rfl rfl rfl (bne_eq_false_iff_eq.mpr c2)) (faP fa48_2 rfl) <| .op 0 (gT rfl rfl rfl (bne_eq_false_iff_eq.mpr c2)) (ldG rfl sz44 ag44 rfl) <| .callI (gT rfl rfl rfl (bne_eq_false_iff_eq.mpr c2)) (callee_of rfl go28 rfl) (.pure rfl rfl (r03_Same.D (g2_17 c1 c2))) <| .op 0 (gT rfl rfl rfl (bne_eq_false_iff_eq.mpr c2)) (notB rfl) <| .op 0 rfl (pkFV rfl (bne_eq_false_iff_eq.mpr c2) rfl) <| .op 0 rfl (mvV rfl) <| .no (gF rfl rfl rfl (bnotT (Bool.eq_false_iff.mpr c3))) <| .no (gF rfl rfl rfl (bnotT (Bool.eq_false_iff.mpr c3))) <| .no (gF rfl rfl rfl (bnotT (Bool.eq_false_iff.mpr c3))) <| .no (gF rfl rfl rfl (bnotT (Bool.eq_false_iff.mpr c3))) <| .no (gF rfl rfl rfl (bnotT (Bool.eq_false_iff.mpr c3))) <| .no (gF rfl rfl rfl (bnotT (Bool.eq_false_iff.mpr c3))) <| .no (gF rfl rfl rfl (bnotT (Bool.eq_false_iff.mpr c3))) <| .op 0 rfl (pkTV rfl (bnotT (Bool.eq_false_iff.mpr c3)) rfl) <| .op 0 rfl (mvV rfl) <| .no (gF rfl rfl rfl rfl) <| .no (gF rfl rfl rfl rfl) <| .no (gF rfl rfl rfl rfl) <| .no (gF rfl rfl rfl rfl) <| .no (gF rfl rfl rfl rfl) <| .no (gF rfl rfl rfl rfl) <| .no (gF rfl rfl rfl rfl) <| .op 0 rfl (pkTV rfl rfl rfl) <| .nilL _ ⟨.ptr rfl, .ptr rfl, cB rfl (mOrF (bnotF (beq_iff_eq.mpr c1)) (mOrF (bnotF (beq_iff_eq.mpr c2)) (mOrT (bnotT (Bool.eq_false_iff.mpr c3))))), trivial⟩)
      · exact (.op 0 rfl (faP fa48_0 rfl) <| .op 0 rfl (ldP rfl sz4 ag4 rfl) <| .op 0 rfl (faP fa48_0 rfl) <| .op 0 rfl (ldP rfl sz4 ag4 rfl) <| .op 0 rfl (neB un4 rfl rfl) <| .op 0 rfl (mvV rfl) <| .op 0 (gT rfl rfl rfl (bne_eq_false_iff_eq.mpr c1)) (faP fa48_1 rfl) <| .op 0 (gT rfl rfl rfl (bne_eq_false_iff_eq.mpr c1)) (ldP rfl sz3 ag3 rfl) <| .op 0 (gT rfl rfl rfl (bne_eq_false_iff_eq.mpr c1)) (faP fa48_1 rfl) <| .op 0 (gT rfl rfl rfl (bne_eq_false_iff_eq.mpr c1)) (ldP rfl sz3 ag3 rfl) <| .op 0 (gT rfl rfl rfl (bne_eq_false_iff_eq.mpr c1)) (neI rfl rfl) <| .op 0 rfl (pkFV rfl (bne_eq_false_iff_eq.mpr c1) rfl) <| .op 0 rfl (mvV rfl) <| .no (gF rfl rfl rfl (bne_iff_ne.mpr c2)) <| .no (gF rfl rfl rfl (bne_iff_ne.mpr c2)) <| .no (gF rfl rfl rfl (bne_iff_ne.mpr c2)) <| .no (gF rfl rfl rfl (bne_iff_ne.mpr c2)) <| .no (gF rfl rfl rfl (bne_iff_ne.mpr c2)) <| .no (gF rfl rfl rfl (bne_iff_ne.mpr c2)) <| .op 0 rfl (pkTV rfl (bne_iff_ne.mpr c2) rfl) <| .op 0 rfl (mvV rfl) <| .no (gF rfl rfl rfl rfl) <| .no (gF rfl rfl rfl rfl) <| .no (gF rfl rfl rfl rfl) <| .no (gF rfl rfl rfl rfl) <| .no (gF rfl rfl rfl rfl) <| .no (gF rfl rfl rfl rfl) <| .no (gF rfl rfl rfl rfl) <| .op 0 rfl (pkTV rfl rfl rfl) <| .op 0 rfl (mvV rfl) <| .no (gF rfl rfl rfl rfl) <| .no (gF rfl rfl rfl rfl) <| .no (gF rfl rfl rfl rfl) <| .no (gF rfl rfl rfl rfl) <| .no (gF rfl rfl rfl rfl) <| .no (gF rfl rfl rfl rfl) <| .no (gF rfl rfl rfl rfl) <| .op 0 rfl (pkTV rfl rfl rfl) <| .nilL _ ⟨.ptr rfl, .ptr rfl, cB rfl (mOrF (bnotF (beq_iff_eq.mpr c1)) (mOrT (bnotT (beq_eq_false_iff_ne.mpr c2)))), trivial⟩)
    · exact (.op 0 rfl (faP fa48_0 rfl) <| .op 0 rfl (ldP rfl sz4 ag4 rfl) <| .op 0 rfl (faP fa48_0 rfl) <| .op 0 rfl (ldP rfl sz4 ag4 rfl) <| .op 0 rfl (neB un4 rfl rfl) <| .op 0 rfl (mvV rfl) <| .no (gF rfl rfl rfl (bne_iff_ne.mpr c1)) <| .no (gF rfl rfl rfl (bne_iff_ne.mpr c1)) <| .no (gF rfl rfl rfl (bne_iff_ne.mpr c1)) <| .no (gF rfl rfl rfl (bne_iff_ne.mpr c1)) <| .no (gF rfl rfl rfl (bne_iff_ne.mpr c1)) <| .op 0 rfl (pkTV rfl (bne_iff_ne.mpr c1) rfl) <| .op 0 rfl (mvV rfl) <| .no (gF rfl rfl rfl rfl) <| .no (gF rfl rfl rfl rfl) <| .no (gF rfl rfl rfl rfl) <| .no (gF rfl rfl rfl rfl) <| .no (gF rfl rfl rfl rfl) <| .no (gF rfl rfl rfl rfl) <| .op 0 rfl (pkTV rfl rfl rfl) <| .op 0 rfl (mvV rfl) <| .no (gF rfl rfl rfl rfl) <| .no (gF rfl rfl rfl rfl) <| .no (gF rfl rfl rfl rfl) <| .no (gF rfl rfl rfl rfl) <| .no (gF rfl rfl rfl rfl) <| .no (gF rfl rfl rfl rfl) <| .no (gF rfl rfl rfl rfl) <| .op 0 rfl (pkTV rfl rfl rfl) <| .op 0 rfl (mvV rfl) <| .no (gF rfl rfl rfl rfl) <| .no (gF rfl rfl rfl rfl) <| .no (gF rfl rfl rfl rfl) <| .no (gF rfl rfl rfl rfl) <| .no (gF rfl rfl rfl rfl) <| .no (gF rfl rfl rfl rfl) <| .no (gF rfl rfl rfl rfl) <| .op 0 rfl (pkTV rfl rfl rfl) <| .nilL _ ⟨.ptr rfl, .ptr rfl, cB rfl (mOrT (bnotT (beq_eq_false_iff_ne.mpr c1))), trivial⟩)
  by_cases c5 : ((!(a0.Zero == a1.Zero)) || ((!(a0.Cost == a1.Cost)) || ((!t2_17) || ((!((a0.Cells.length : Int) == (a1.Cells.length : Int))) || ((a0.Parts.length : Int) != (a1.Parts.length : Int)))))) = true
  · rw [if_pos c5] at h
    refine .condT rfl c5 ?_
    refine .seq ?_
    refine .reg0 rfl (.op 0 rfl (asV rfl) <| .nil0) ?_
    replace h := h.symm
    subst h
    refine .keepL [] [(4, .val (.bool false))] [] (by decide) (by decide) ⟨.free rfl rfl, trivial⟩ trivial ?_
    exact .ret rfl
  · rw [if_neg c5] at h
    refine .condF rfl (Bool.eq_false_iff.mpr c5) ?_
    refine .skip ?_
    refine .seq ?_
    refine .seq ?_
    refine .reg0 rfl (.op 0 rfl (asV rfl) <| .nil0) ?_
    refine .block ?_
    refine .keepL [0, 1] [(2, .ptr 0 1 6 0 0), (3, .ptr 1 1 6 0 0), (5, .val (.int .i64 0))] [⟨6, [(TWeight.lit a0)], 0, none⟩, ⟨6, [(TWeight.lit a1)], 0, none⟩] (by decide) (by decide) ⟨.ptr rfl, .ptr rfl, .free rfl rfl, trivial⟩ ⟨⟨_, rfl, bcBox (all2_free rfl)⟩, ⟨_, rfl, bcBox (all2_free rfl)⟩, trivial⟩ ?_
    obtain ⟨o1, hL1, h⟩ := h
    refine .loopB (r05_Same.b1 a0 a1) (fun x1 => listEnv [(2, .ptr 0 1 6 0 0), (3, .ptr 1 1 6 0 0), (5, .val (.int .i64 x1))]) (fun x1 => [⟨6, [(TWeight.lit a0)], 0, none⟩, ⟨6, [(TWeight.lit a1)], 0, none⟩]) (fun _ => listEnv [(2, .ptr 0 1 6 0 0), (3, .ptr 1 1 6 0 0)]) (fun _ => [⟨6, [(TWeight.lit a0)], 0, none⟩, ⟨6, [(TWeight.lit a1)], 0, none⟩]) hL1 (fun r_ => r = r_) ?_ ?_ ?_
    · rintro ⟨⟩ rfl
      try dsimp only [Fin.on] at h
      refine .seq ?_
      refine .seq ?_
      refine .reg0 rfl (.op 0 rfl (asV rfl) <| .nil0) ?_
      refine .block ?_
      refine .keepL [0, 1] [(2, .ptr 0 1 6 0 0), (3, .ptr 1 1 6 0 0), (6, .val (.int .i64 0))] [⟨6, [(TWeight.lit a0)], 0, none⟩, ⟨6, [(TWeight.lit a1)], 0, none⟩] (by decide) (by decide) ⟨.ptr rfl, .ptr rfl, .free rfl rfl, trivial⟩ ⟨⟨_, rfl, bcBox (all2_free rfl)⟩, ⟨_, rfl, bcBox (all2_free rfl)⟩, trivial⟩ ?_
      obtain ⟨o2, hL2, h⟩ := h
      refine .loopB (r05_Same.b2 self12 a0 a1) (fun x2 => listEnv [(2, .ptr 0 1 6 0 0), (3, .ptr 1 1 6 0 0), (6, .val (.int .i64 x2))]) (fun x2 => [⟨6, [(TWeight.lit a0)], 0, none⟩, ⟨6, [(TWeight.lit a1)], 0, none⟩]) (fun _ => listEnv []) (fun _ => []) hL2 (fun r_ => r = r_) ?_ ?_ ?_
      · rintro ⟨⟩ rfl
        try dsimp only [Fin.on] at h
        refine .seq ?_
        refine .reg0 rfl (.op 0 rfl (asV rfl) <| .nil0) ?_
        replace h := h.symm
        subst h
        refine .keepL [] [(4, .val (.bool true))] [] (by decide) (by decide) ⟨.free rfl rfl, trivial⟩ trivial ?_
        exact .ret rfl
      · rintro r_ rfl
        exact h
      · rintro x2 z2 h hn2 hx2 hr2
        dsimp only [r05_Same.b2] at h
        refine .seq ?_
        refine .seq ?_
        refine .reg0 rfl (.op 0 rfl (mvV rfl) <| .op 0 rfl (faP fa48_4 rfl) <| .op 0 rfl (ldP rfl sz46 ag46 rfl) <| .op 0 rfl (lnR (l := a0.Parts) sl46 rfl) <| .op 0 rfl (ltI rfl rfl) <| .nil0) ?_
        by_cases c16 : x2 < (a0.Parts.length : Int)
        · rw [if_pos c16] at h
          refine .condT rfl (decide_eq_true c16) ?_
          refine .skip ?_
          refine .seq ?_
          refine .block ?_
          refine .seq ?_
          obtain ⟨g27_3, h⟩ := h
          obtain ⟨g27_8, h⟩ := h
          obtain ⟨t27_10, g27_10, h⟩ := h
          refine .reg1 (e1 := listEnv [(2, .ptr 0 1 6 0 0), (3, .ptr 1 1 6 0 0), (6, .val (.int .i64 x2)), (81, .val (.bool (!t27_10)))]) (H1 := [⟨6, [(TWeight.lit a0)], 0, none⟩, ⟨6, [(TWeight.lit a1)], 0, none⟩]) rfl ?_ ?_
          · exact .drawM [(11, 81, .val (.bool (!t27_10))), (10, 80, .val (.bool t27_10)), (9, 79, .agg (TWeight.lit (rdl a1.Parts x2))), (8, 78, .cptr (TWeight.lit (rdl a1.Parts x2)) 0), (7, 77, .val (.int .i64 x2)), (6, 76, .rows (a1.Parts.map TWeight.cells)), (5, 75, .ptr 1 1 6 0 5), (4, 74, .agg (TWeight.lit (rdl a0.Parts x2))), (3, 73, .cptr (TWeight.lit (rdl a0.Parts x2)) 0), (2, 72, .val (.int .i64 x2)), (1, 71, .rows (a0.Parts.map TWeight.cells)), (0, 70, .ptr 0 1 6 0 5)] [] [[], [0], [], [1, 0, 2], [3, 1, 0, 2], [], [5], [], [6, 5, 7], [8, 6, 5, 7], [4, 3, 1, 0, 2, 9, 8, 6, 5, 7], [10, 4, 3, 1, 0, 2, 9, 8, 6, 5, 7]] (by rfl) (by rfl) (by rfl) (by exact ⟨fun S hS hD hn => .one 0 hS hD hn rfl rfl (faP fa48_4 rfl) rfl rfl rfl, fun S hS hD hn => .one 0 hS hD hn rfl rfl (ldP rfl sz46 ag46 rfl) rfl rfl rfl, fun S hS hD hn => .one 0 hS hD hn rfl rfl (mvV rfl) rfl rfl rfl, fun S hS hD hn => .one 0 hS hD hn rfl rfl (ixR (l := a0.Parts) (lit := TWeight.lit) sl46 rfl rfl TWeight.cells_lit g27_3.1 g27_3.2) rfl rfl rfl, fun S hS hD hn => .one 0 hS hD hn rfl rfl (ldCG rfl sz48 ag48 rfl) rfl rfl rfl, fun S hS hD hn => .one 0 hS hD hn rfl rfl (faP fa48_4 rfl) rfl rfl rfl, fun S hS hD hn => .one 0 hS hD hn rfl rfl (ldP rfl sz46 ag46 rfl) rfl rfl rfl, fun S hS hD hn => .one 0 hS hD hn rfl rfl (mvV rfl) rfl rfl rfl, fun S hS hD hn => .one 0 hS hD hn rfl rfl (ixR (l := a1.Parts) (lit := TWeight.lit) sl46 rfl rfl TWeight.cells_lit g27_8.1 g27_8.2) rfl rfl rfl, fun S hS hD hn => .one 0 hS hD hn rfl rfl (ldCG rfl sz48 ag48 rfl) rfl rfl rfl, fun S hS hD hn => .oneI hS hD hn rfl rfl (callee_of rfl go12 rfl) (.pure rfl rfl (hs12 _ _ _ g27_10)) rfl rfl rfl, fun S hS hD hn => .one 0 hS hD hn rfl rfl (notB rfl) rfl rfl rfl, trivial⟩) _ (by exact ⟨.ptr rfl, .ptr rfl, .free rfl rfl, .free rfl rfl, trivial⟩) (by rfl)
          by_cases c17 : t27_10 = true
          · rw [if_pos c17] at h
            refine .condF rfl (bnotF c17) ?_
            refine .skip ?_
            refine .inBlock ?_
            refine .reg0 rfl (.op 0 rfl (mvV rfl) <| .op 0 rfl (addI rfl rfl) <| .op 0 rfl (asV rfl) <| .nil0) ?_
            refine .keepL [0, 1] [(2, .ptr 0 1 6 0 0), (3, .ptr 1 1 6 0 0), (6, .val (.int .i64 (IntKind.i64.wrap (x2 + 1))))] [⟨6, [(TWeight.lit a0)], 0, none⟩, ⟨6, [(TWeight.lit a1)], 0, none⟩] (by decide) (by decide) ⟨.ptr rfl, .ptr rfl, .free rfl rfl, trivial⟩ ⟨⟨_, rfl, bcBox (all2_free rfl)⟩, ⟨_, rfl, bcBox (all2_free rfl)⟩, trivial⟩ ?_
            exact hn2 _ h
          · rw [if_neg c17] at h
            refine .condT rfl (bnotT (Bool.eq_false_iff.mpr c17)) ?_
            refine .seq ?_
            refine .reg0 rfl (.op 0 rfl (asV rfl) <| .nil0) ?_
            have q6 := hr2 _ h
            replace q6 := q6.symm
            subst q6
            refine .keepL [] [(4, .val (.bool false))] [] (by decide) (by decide) ⟨.free rfl rfl, trivial⟩ trivial ?_
            exact .ret rfl
        · rw [if_neg c16] at h
          refine .condF rfl (decide_eq_false c16) ?_
          refine .exit rfl ?_
          refine .keepL [] [] [] (by decide) (by decide) trivial trivial ?_
          exact hx2 _ h
    · rintro r_ rfl
      exact h
    · rintro x1 z1 h hn1 hx1 hr1
      dsimp only [r05_Same.b1] at h
      refine .seq ?_
      refine .seq ?_
      refine .reg0 rfl (.op 0 rfl (mvV rfl) <| .op 0 rfl (faP fa48_3 rfl) <| .op 0 rfl (ldP rfl sz45 ag45 rfl) <| .op 0 rfl (lnR (l := a0.Cells) sl45 rfl) <| .op 0 rfl (ltI rfl rfl) <| .nil0) ?_
      by_cases c10 : x1 < (a0.Cells.length : Int)
      · rw [if_pos c10] at h
        refine .condT rfl (decide_eq_true c10) ?_
        refine .skip ?_
        refine .seq ?_
        refine .block ?_
        refine .seq ?_
        obtain ⟨g14_3, h⟩ := h
        obtain ⟨g14_8, h⟩ := h
        refine .reg1 (e1 := listEnv [(2, .ptr 0 1 6 0 0), (3, .ptr 1 1 6 0 0), (5, .val (.int .i64 x1)), (62, .val (.bool (!(((rdl a0.Cells x1).From == (rdl a1.Cells x1).From) && (((rdl a0.Cells x1).Kind == (rdl a1.Cells x1).Kind) && (((rdl a0.Cells x1).K == (rdl a1.Cells x1).K) && true))))))]) (H1 := [⟨6, [(TWeight.lit a0)], 0, none⟩, ⟨6, [(TWeight.lit a1)], 0, none⟩]) rfl ?_ ?_
        · exact .drawM [(10, 62, .val (.bool (!(((rdl a0.Cells x1).From == (rdl a1.Cells x1).From) && (((rdl a0.Cells x1).Kind == (rdl a1.Cells x1).Kind) && (((rdl a0.Cells x1).K == (rdl a1.Cells x1).K) && true)))))), (9, 61, .agg (TCell.lit (rdl a1.Cells x1))), (8, 60, .cptr (TCell.lit (rdl a1.Cells x1)) 0), (7, 59, .val (.int .i64 x1)), (6, 58, .rows (a1.Cells.map TCell.cells)), (5, 57, .ptr 1 1 6 0 4), (4, 56, .agg (TCell.lit (rdl a0.Cells x1))), (3, 55, .cptr (TCell.lit (rdl a0.Cells x1)) 0), (2, 54, .val (.int .i64 x1)), (1, 53, .rows (a0.Cells.map TCell.cells)), (0, 52, .ptr 0 1 6 0 4)] [] [[], [0], [], [1, 0, 2], [3, 1, 0, 2], [], [5], [], [6, 5, 7], [8, 6, 5, 7], [4, 3, 1, 0, 2, 9, 8, 6, 5, 7]] (by rfl) (by rfl) (by rfl) (by exact ⟨fun S hS hD hn => .one 0 hS hD hn rfl rfl (faP fa48_3 rfl) rfl rfl rfl, fun S hS hD hn => .one 0 hS hD hn rfl rfl (ldP rfl sz45 ag45 rfl) rfl rfl rfl, fun S hS hD hn => .one 0 hS hD hn rfl rfl (mvV rfl) rfl rfl rfl, fun S hS hD hn => .one 0 hS hD hn rfl rfl (ixR (l := a0.Cells) (lit := TCell.lit) sl45 rfl rfl (fun _ => rfl) g14_3.1 g14_3.2) rfl rfl rfl, fun S hS hD hn => .one 0 hS hD hn rfl rfl (ldCG rfl sz72 ag72 rfl) rfl rfl rfl, fun S hS hD hn => .one 0 hS hD hn rfl rfl (faP fa48_3 rfl) rfl rfl rfl, fun S hS hD hn => .one 0 hS hD hn rfl rfl (ldP rfl sz45 ag45 rfl) rfl rfl rfl, fun S hS hD hn => .one 0 hS hD hn rfl rfl (mvV rfl) rfl rfl rfl, fun S hS hD hn => .one 0 hS hD hn rfl rfl (ixR (l := a1.Cells) (lit := TCell.lit) sl45 rfl rfl (fun _ => rfl) g14_8.1 g14_8.2) rfl rfl rfl, fun S hS hD hn => .one 0 hS hD hn rfl rfl (ldCG rfl sz72 ag72 rfl) rfl rfl rfl, fun S hS hD hn => .one 0 hS hD hn rfl rfl (neS (xs := [.int .u64 ((rdl a0.Cells x1).From), .int .i64 ((rdl a0.Cells x1).Kind), .int .i64 ((rdl a0.Cells x1).K)]) (ys := [.int .u64 ((rdl a1.Cells x1).From), .int .i64 ((rdl a1.Cells x1).Kind), .int .i64 ((rdl a1.Cells x1).K)]) ek72 rfl rfl rfl rfl rfl) rfl rfl rfl, trivial⟩) _ (by exact ⟨.ptr rfl, .ptr rfl, .free rfl rfl, .free rfl rfl, trivial⟩) (by rfl)
        by_cases c11 : (((rdl a0.Cells x1).From == (rdl a1.Cells x1).From) && (((rdl a0.Cells x1).Kind == (rdl a1.Cells x1).Kind) && (((rdl a0.Cells x1).K == (rdl a1.Cells x1).K) && true))) = true
        · rw [if_pos c11] at h
          refine .condF rfl (bnotF c11) ?_
          refine .skip ?_
          refine .inBlock ?_
          refine .reg0 rfl (.op 0 rfl (mvV rfl) <| .op 0 rfl (addI rfl rfl) <| .op 0 rfl (asV rfl) <| .nil0) ?_
          refine .keepL [0, 1] [(2, .ptr 0 1 6 0 0), (3, .ptr 1 1 6 0 0), (5, .val (.int .i64 (IntKind.i64.wrap (x1 + 1))))] [⟨6, [(TWeight.lit a0)], 0, none⟩, ⟨6, [(TWeight.lit a1)], 0, none⟩] (by decide) (by decide) ⟨.ptr rfl, .ptr rfl, .free rfl rfl, trivial⟩ ⟨⟨_, rfl, bcBox (all2_free rfl)⟩, ⟨_, rfl, bcBox (all2_free rfl)⟩, trivial⟩ ?_
          exact hn1 _ h
        · rw [if_neg c11] at h
          refine .condT rfl (bnotT (Bool.eq_false_iff.mpr c11)) ?_
          refine .seq ?_
          refine .reg0 rfl (.op 0 rfl (asV rfl) <| .nil0) ?_
          have q3 := hr1 _ h
          replace q3 := q3.symm
          subst q3
          refine .keepL [] [(4, .val (.bool false))] [] (by decide) (by decide) ⟨.free rfl rfl, trivial⟩ trivial ?_
          exact .ret rfl
      · rw [if_neg c10] at h
        refine .condF rfl (decide_eq_false c10) ?_
        refine .exit rfl ?_
        refine .keepL [0, 1] [(2, .ptr 0 1 6 0 0), (3, .ptr 1 1 6 0 0)] [⟨6, [(TWeight.lit a0)], 0, none⟩, ⟨6, [(TWeight.lit a1)], 0, none⟩] (by decide) (by decide) ⟨.ptr rfl, .ptr rfl, trivial⟩ ⟨⟨_, rfl, bcBox (all2_free rfl)⟩, ⟨_, rfl, bcBox (all2_free rfl)⟩, trivial⟩ ?_
        exact hx1 _ h
def r05_Same.fN : Nat → TWeight → TWeight → Bool → Prop
  | 0 => fun _ _ _ => False
  | n + 1 => r05_Same.step (r05_Same.fN n)
theorem r05_Same.ND : ∀ (n : Nat) {a0 : TWeight} {a1 : TWeight} {r : Bool} (h : r05_Same.fN n a0 a1 r), D Try.prog X (.callH 12 [.agg (TWeight.lit a0), .agg (TWeight.lit a1)] [] (.val (.bool r)) [])
  | 0, _, _, _, h => h.elim
  | n + 1, _, _, _, h => r05_Same.stepD (fun _ _ _ h => r05_Same.ND n h) h
def r05_Same.f (a0 : TWeight) (a1 : TWeight) (r : Bool) : Prop := ∃ n, r05_Same.fN n a0 a1 r
theorem r05_Same.D {a0 : TWeight} {a1 : TWeight} {r : Bool} (h : r05_Same.f a0 a1 r) : D Try.prog X (.callH 12 [.agg (TWeight.lit a0), .agg (TWeight.lit a1)] [] (.val (.bool r)) []) := by obtain ⟨n, h⟩ := h; exact r05_Same.ND n h
def r10_Same.b1 (a0 : TAuto) (a1 : TAuto) : Int → Rnd Int Unit Bool → Prop := fun x1 z1 => if x1 < (a0.Final.length : Int) then (((InR x1 a0.Final.length)) ∧ ((InR x1 a1.Final.length)) ∧ if (rdl a0.Final x1) = (rdl a1.Final x1) then (z1 = .next (IntKind.i64.wrap (x1 + 1))) else (z1 = .ret false)) else (z1 = .exit ())
def r10_Same.b2 (a0 : TAuto) (a1 : TAuto) : Int → Rnd Int Unit Bool → Prop := fun x2 z2 => if x2 < (a0.Trans.length : Int) then (((InR x2 a0.Trans.length)) ∧ ((InR x2 a1.Trans.length)) ∧ ∃ t30_24 : Bool, (((rdl a0.Trans x2).From = (rdl a1.Trans x2).From) → ((rdl a0.Trans x2).Sym = (rdl a1.Trans x2).Sym) → ((rdl a0.Trans x2).To = (rdl a1.Trans x2).To) → r05_Same.f ((rdl a0.Trans x2).W) ((rdl a1.Trans x2).W) t30_24) ∧ if ((!((rdl a0.Trans x2).From == (rdl a1.Trans x2).From)) || ((!((rdl a0.Trans x2).Sym == (rdl a1.Trans x2).Sym)) || ((!((rdl a0.Trans x2).To == (rdl a1.Trans x2).To)) || (!t30_24)))) = true then (z2 = .ret false) else (z2 = .next (IntKind.i64.wrap (x2 + 1)))) else (z2 = .exit ())
def r10_Same.f (a0 : TAuto) (a1 : TAuto) (r : Bool) : Prop :=
  ∃ t2_4 : Bool, (r05_SameSpace.f a0.Space a1.Space t2_4) ∧ if ((!t2_4) || ((!(a0.States == a1.States)) || ((!(a0.Symbols == a1.Symbols)) || ((!((a0.Final.length : Int) == (a1.Final.length : Int))) || ((a0.Trans.length : Int) != (a1.Trans.length : Int)))))) = true then (r = false) else (∃ o1 : Fin Unit Bool, Loop (r10_Same.b1 a0 a1) 0 o1 ∧ o1.on (fun _ => ∃ o2 : Fin Unit Bool, Loop (r10_Same.b2 a0 a1) 0 o2 ∧ o2.on (fun _ => r = true) (fun r_ => r = r_)) (fun r_ => r = r_))
theorem r10_Same.D {a0 : TAuto} {a1 : TAuto} {r : Bool} (h : r10_Same.f a0 a1 r) : D Try.prog X (.callH 8 [.agg (TAuto.lit a0), .agg (TAuto.lit a1)] [] (.val (.bool r)) []) := by
  unfold r10_Same.f at h
  refine .enter 109 0 fn8 rfl rfl rfl ?_
  refine .seq ?_
  refine .room 0 ?_
  refine .room 0 ?_
  refine .reg0 rfl (.op 0 rfl (bxP (s := 7) (cs := (TAuto.lit a0)) rfl ⟨rfl, by decide, rfl⟩ rfl) <| .op 1 rfl (bxP (s := 7) (cs := (TAuto.lit a1)) rfl ⟨rfl, by decide, rfl⟩ rfl) <| .op 0 rfl (asV rfl) <| .nil0) ?_
  refine .seq ?_
  refine .seq ?_
  obtain ⟨t2_4, g2_4, h⟩ := h
  refine .reg0 (e1 := listEnv [(2, .ptr 0 1 7 0 0), (3, .ptr 1 1 7 0 0), (46, .val (.bool ((!t2_4) || ((!(a0.States == a1.States)) || ((!(a0.Symbols == a1.Symbols)) || ((!((a0.Final.length : Int) == (a1.Final.length : Int))) || ((a0.Trans.length : Int) != (a1.Trans.length : Int))))))))]) (H1 := [⟨7, [(TAuto.lit a0)], 0, none⟩, ⟨7, [(TAuto.lit a1)], 0, none⟩]) rfl ?_ ?_
  · by_cases c1 : t2_4 = true
    · by_cases c2 : a0.States = a1.States
      · by_cases c3 : a0.Symbols = a1.Symbols
        · by_cases c4 : (a0.Final.length : Int) = (a1.Final.length : Int)
          · exact (.op 0 rfl (faP fa35_0 rfl) <| .op 0 rfl (ldG rfl sz25 ag25 rfl) <| .op 0 rfl (faP fa35_0 rfl) <| .op 0 rfl (ldG rfl sz25 ag25 rfl) <| .callI rfl (callee_of rfl go21 rfl) (.pure rfl rfl (r05_SameSpace.D g2_4)) <| .op 0 rfl (notB rfl) <| .op 0 rfl (mvV rfl) <| .op 0 (gT rfl rfl rfl (bnotF c1)) (faP fa35_1 rfl) <| .op 0 (gT rfl rfl rfl (bnotF c1)) (ldP rfl sz3 ag3 rfl) <| .op 0 (gT rfl rfl rfl (bnotF c1)) (faP fa35_1 rfl) <| .op 0 (gT rfl rfl rfl (bnotF c1)) (ldP rfl sz3 ag3 rfl) <| .op 0 (gT rfl rfl rfl (bnotF c1)) (neI rfl rfl) <| .op 0 rfl (pkFV rfl (bnotF c1) rfl) <| .op 0 rfl (mvV rfl) <| .op 0 (gT rfl rfl rfl (bne_eq_false_iff_eq.mpr c2)) (faP fa35_2 rfl) <| .op 0 (gT rfl rfl rfl (bne_eq_false_iff_eq.mpr c2)) (ldP rfl sz3 ag3 rfl) <| .op 0 (gT rfl rfl rfl (bne_eq_false_iff_eq.mpr c2)) (faP fa35_2 rfl) <| .op 0 (gT rfl rfl rfl (bne_eq_false_iff_eq.mpr c2)) (ldP rfl sz3 ag3 rfl) <| .op 0 (gT rfl rfl rfl (bne_eq_false_iff_eq.mpr c2)) (neI rfl rfl) <| .op 0 rfl (pkFV rfl (bne_eq_false_iff_eq.mpr c2) rfl) <| .op 0 rfl (mvV rfl) <| .op 0 (gT rfl rfl rfl (bne_eq_false_iff_eq.mpr c3)) (faP fa35_3 rfl) <| .op 0 (gT rfl rfl rfl (bne_eq_false_iff_eq.mpr c3)) (ldP rfl sz29 ag29 rfl) <| .op 0 (gT rfl rfl rfl (bne_eq_false_iff_eq.mpr c3)) (lnR (l := a0.Final) sl29 rfl) <| .op 0 (gT rfl rfl rfl (bne_eq_false_iff_eq.mpr c3)) (faP fa35_3 rfl) <| .op 0 (gT rfl rfl rfl (bne_eq_false_iff_eq.mpr c3)) (ldP rfl sz29 ag29 rfl) <| .op 0 (gT rfl rfl rfl (bne_eq_false_iff_eq.mpr c3)) (lnR (l := a1.Final) sl29 rfl) <| .op 0 (gT rfl rfl rfl (bne_eq_false_iff_eq.mpr c3)) (neI rfl rfl) <| .op 0 rfl (pkFV rfl (bne_eq_false_iff_eq.mpr c3) rfl) <| .op 0 rfl (mvV rfl) <| .op 0 (gT rfl rfl rfl (bne_eq_false_iff_eq.mpr c4)) (faP fa35_4 rfl) <| .op 0 (gT rfl rfl rfl (bne_eq_false_iff_eq.mpr c4)) (ldP rfl sz33 ag33 rfl) <| .op 0 (gT rfl rfl rfl (bne_eq_false_iff_eq.mpr c4)) (lnR (l := a0.Trans) sl33 rfl) <| .op 0 (gT rfl rfl rfl (bne_eq_false_iff_eq.mpr c4)) (faP fa35_4 rfl) <| .op 0 (gT rfl rfl rfl (bne_eq_false_iff_eq.mpr c4)) (ldP rfl sz33 ag33 rfl) <| .op 0 (gT rfl rfl rfl (bne_eq_false_iff_eq.mpr c4)) (lnR (l := a1.Trans) sl33 rfl) <| .op 0 (gT rfl rfl rfl (bne_eq_false_iff_eq.mpr c4)) (neI rfl rfl) <| .op 0 rfl (pkFV rfl (bne_eq_false_iff_eq.mpr c4) rfl) <| .nilL _ ⟨.ptr rfl, .ptr rfl, cB rfl (mOrF (bnotF c1) (mOrF (bnotF (beq_iff_eq.mpr c2)) (mOrF (bnotF (beq_iff_eq.mpr c3)) (mOrF (bnotF (beq_iff_eq.mpr c4)) rfl)))), trivial⟩)
          · exact (.op 0 rfl (faP fa35_0 rfl) <| .op 0 rfl (ldG rfl sz25 ag25 rfl) <| .op 0 rfl (faP fa35_0 rfl) <| .op 0 rfl (ldG rfl sz25 ag25 rfl) <| .callI rfl (callee_of rfl go21 rfl) (.pure rfl rfl (r05_SameSpace.D g2_4)) <| .op 0 rfl (notB rfl) <| .op 0 rfl (mvV rfl) <| .op 0 (gT rfl rfl rfl (bnotF c1)) (faP fa35_1 rfl) <| .op 0 (gT rfl rfl rfl (bnotF c1)) (ldP rfl sz3 ag3 rfl) <| .op 0 (gT rfl rfl rfl (bnotF c1)) (faP fa35_1 rfl) <| .op 0 (gT rfl rfl rfl (bnotF c1)) (ldP rfl sz3 ag3 rfl) <| .op 0 (gT rfl rfl rfl (bnotF c1)) (neI rfl rfl) <| .op 0 rfl (pkFV rfl (bnotF c1) rfl) <| .op 0 rfl (mvV rfl) <| .op 0 (gT rfl rfl rfl (bne_eq_false_iff_eq.mpr c2)) (faP fa35_2 rfl) <| .op 0 (gT rfl rfl rfl (bne_eq_false_iff_eq.mpr c2)) (ldP rfl sz3 ag3 rfl) <| .op 0 (gT rfl rfl rfl (bne_eq_false_iff_eq.mpr c2)) (faP fa35_2 rfl) <| .op 0 (gT rfl rfl rfl (bne_eq_false_iff_eq.mpr c2)) (ldP rfl sz3 ag3 rfl) <| .op 0 (gT rfl rfl rfl (bne_eq_false_iff_eq.mpr c2)) (neI rfl rfl) <| .op 0 rfl (pkFV rfl (bne_eq_false_iff_eq.mpr c2) rfl) <| .op 0 rfl (mvV rfl) <| .op 0 (gT rfl rfl rfl (bne_eq_false_iff_eq.mpr c3)) (faP fa35_3 rfl) <| .op 0 (gT rfl rfl rfl (bne_eq_false_iff_eq.mpr c3)) (ldP rfl sz29 ag29 rfl) <| .op 0 (gT rfl rfl rfl (bne_eq_false_iff_eq.mpr c3)) (lnR (l := a0.Final) sl29 rfl) <| .op 0 (gT rfl rfl rfl (bne_eq_false_iff_eq.mpr c3)) (faP fa35_3 rfl) <| .op 0 (gT rfl rfl rfl (bne_eq_false_iff_eq.mpr c3)) (ldP rfl sz29 ag29 rfl) <| .op 0 (gT rfl rfl rfl (bne_eq_false_iff_eq.mpr c3)) (lnR (l := a1.Final) sl29 rfl) <| .op 0 (gT rfl rfl rfl (bne_eq_false_iff_eq.mpr c3)) (neI rfl rfl) <| .op 0 rfl (pkFV rfl (bne_eq_false_iff_eq.mpr c3) rfl) <| .op 0 rfl (mvV rfl) <| .no (gF rfl rfl rfl (bne_iff_ne.mpr c4)) <| .no (gF rfl rfl rfl (bne_iff_ne.mpr c4)) <| .no (gF rfl rfl rfl (bne_iff_ne.mpr c4)) <| .no (gF rfl rfl rfl (bne_iff_ne.mpr c4)) <| .no (gF rfl rfl rfl (bne_iff_ne.mpr c4)) <| .no (gF rfl rfl rfl (bne_iff_ne.mpr c4)) <| .no (gF rfl rfl rfl (bne_iff_ne.mpr c4)) <| .op 0 rfl (pkTV rfl (bne_iff_ne.mpr c4) rfl) <| .nilL _ ⟨.ptr rfl, .ptr rfl, cB rfl (mOrF (bnotF c1) (mOrF (bnotF (beq_iff_eq.mpr c2)) (mOrF (bnotF (beq_iff_eq.mpr c3)) (mOrT (bnotT (beq_eq_false_iff_ne.mpr c4)))))), trivial⟩)
        · exact (.op 0 rfl (faP fa35_0 rfl) <| .op 0 rfl (ldG rfl sz25 ag25 rfl) <| .op 0 rfl (faP fa35_0 rfl) <| .op 0 rfl (ldG rfl sz25 ag25 rfl) <| .callI rfl (callee_of rfl go21 rfl) (.pure rfl rfl (r05_SameSpace.D g2_4)) <| .op 0 rfl (notB rfl) <| .op 0 rfl (mvV rfl) <| .op 0 (gT rfl rfl rfl (bnotF c1)) (faP fa35_1 rfl) <| .op 0 (gT rfl rfl rfl (bnotF c1)) (ldP rfl sz3 ag3 rfl) <| .op 0 (gT rfl rfl rfl (bnotF c1)) (faP fa35_1 rfl) <| .op 0 (gT rfl rfl rfl (bnotF c1)) (ldP rfl sz3 ag3 rfl) <| .op 0 (gT rfl rfl rfl (bnotF c1)) (neI rfl rfl) <| .op 0 rfl (pkFV rfl (bnotF c1) rfl) <| .op 0 rfl (mvV rfl) <| .op 0 (gT rfl rfl rfl (bne_eq_false_iff_eq.mpr c2)) (faP fa35_2 rfl) <| .op 0 (gT rfl rfl rfl (bne_eq_false_iff_eq.mpr c2)) (ldP rfl sz3 ag3 rfl) <| .op 0 (gT rfl rfl rfl (bne_eq_false_iff_eq.mpr c2)) (faP fa35_2 rfl) <| .op 0 (gT rfl rfl rfl (bne_eq_false_iff_eq.mpr c2)) (ldP rfl sz3 ag3 rfl) <| .op 0 (gT rfl rfl rfl (bne_eq_false_iff_eq.mpr c2)) (neI rfl rfl) <| .op 0 rfl (pkFV rfl (bne_eq_false_iff_eq.mpr c2) rfl) <| .op 0 rfl (mvV rfl) <| .no (gF rfl rfl rfl (bne_iff_ne.mpr c3)) <| .no (gF rfl rfl rfl (bne_iff_ne.mpr c3)) <| .no (gF rfl rfl rfl (bne_iff_ne.mpr c3)) <| .no (gF rfl rfl rfl (bne_iff_ne.mpr c3)) <| .no (gF rfl rfl rfl (bne_iff_ne.mpr c3)) <| .no (gF rfl rfl rfl (bne_iff_ne.mpr c3)) <| .no (gF rfl rfl rfl (bne_iff_ne.mpr c3)) <| .op 0 rfl (pkTV rfl (bne_iff_ne.mpr c3) rfl) <| .op 0 rfl (mvV rfl) <| .no (gF rfl rfl rfl rfl) <| .no (gF rfl rfl rfl rfl) <| .no (gF rfl rfl rfl rfl) <| .no (gF rfl rfl rfl rfl) <| .no (gF rfl rfl rfl rfl) <| .no (gF rfl rfl rfl rfl) <| .no (gF rfl rfl rfl rfl) <| .op 0 rfl (pkTV rfl rfl rfl) <| .nilL _ ⟨.ptr rfl, .ptr rfl, cB rfl (mOrF (bnotF c1) (mOrF (bnotF (beq_iff_eq.mpr c2)) (mOrT (bnotT (beq_eq_false_iff_ne.mpr c3))))), trivial⟩)
      · exact (.op 0 rfl (faP fa35_0 rfl) <| .op 0 rfl (ldG rfl sz25 ag25 rfl) <| .op 0 rfl (faP fa35_0 rfl) <| .op 0 rfl (ldG rfl sz25 ag25 rfl) <| .callI rfl (callee_of rfl go21 rfl) (.pure rfl rfl (r05_SameSpace.D g2_4)) <| .op 0 rfl (notB rfl) <| .op 0 rfl (mvV rfl) <| .op 0 (gT rfl rfl rfl (bnotF c1)) (faP fa35_1 rfl) <| .op 0 (gT rfl rfl rfl (bnotF c1)) (ldP rfl sz3 ag3 rfl) <| .op 0 (gT rfl rfl rfl (bnotF c1)) (faP fa35_1 rfl) <| .op 0 (gT rfl rfl rfl (bnotF c1)) (ldP rfl sz3 ag3 rfl) <| .op 0 (gT rfl rfl rfl (bnotF c1)) (neI rfl rfl) <| .op 0 rfl (pkFV rfl (bnotF c1) rfl) <| .op 0 rfl (mvV rfl) <| .no (gF rfl rfl rfl (bne_iff_ne.mpr c2)) <| .no (gF rfl rfl rfl (bne_iff_ne.mpr c2)) <| .no (gF rfl rfl rfl (bne_iff_ne.mpr c2)) <| .no (gF rfl rfl rfl (bne_iff_ne.mpr c2)) <| .no (gF rfl rfl rfl (bne_iff_ne.mpr c2)) <| .op 0 rfl (pkTV rfl (bne_iff_ne.mpr c2) rfl) <| .op 0 rfl (mvV rfl) <| .no (gF rfl rfl rfl rfl) <| .no (gF rfl rfl rfl rfl) <| .no (gF rfl rfl rfl rfl) <| .no (gF rfl rfl rfl rfl) <| .no (gF rfl rfl rfl rfl) <| .no (gF rfl rfl rfl rfl) <| .no (gF rfl rfl rfl rfl) <| .op 0 rfl (pkTV rfl rfl rfl) <| .op 0 rfl (mvV rfl) <| .no (gF rfl rfl rfl rfl) <| .no (gF rfl rfl rfl rfl) <| .no (gF rfl rfl rfl rfl) <| .no (gF rfl rfl rfl rfl) <| .no (gF rfl rfl rfl rfl) <| .no (gF rfl rfl rfl rfl) <| .no (gF rfl rfl rfl rfl) <| .op 0 rfl (pkTV rfl rfl rfl) <| .nilL _ ⟨.ptr rfl, .ptr rfl, cB rfl (mOrF (bnotF c1) (mOrT (bnotT (beq_eq_false_iff_ne.mpr c2)))), trivial⟩)
    · exact (.op 0 rfl (faP fa35_0 rfl) <| .op 0 rfl (ldG rfl sz25 ag25 rfl) <| .op 0 rfl (faP fa35_0 rfl) <| .op 0 rfl (ldG rfl sz25 ag25 rfl) <| .callI rfl (callee_of rfl go21 rfl) (.pure rfl rfl (r05_SameSpace.D g2_4)) <| .op 0 rfl (notB rfl) <| .op 0 rfl (mvV rfl) <| .no (gF rfl rfl rfl (bnotT (Bool.eq_false_iff.mpr c1))) <| .no (gF rfl rfl rfl (bnotT (Bool.eq_false_iff.mpr c1))) <| .no (gF rfl rfl rfl (bnotT (Bool.eq_false_iff.mpr c1))) <| .no (gF rfl rfl rfl (bnotT (Bool.eq_false_iff.mpr c1))) <| .no (gF rfl rfl rfl (bnotT (Bool.eq_false_iff.mpr c1))) <| .op 0 rfl (pkTV rfl (bnotT (Bool.eq_false_iff.mpr c1)) rfl) <| .op 0 rfl (mvV rfl) <| .no (gF rfl rfl rfl rfl) <| .no (gF rfl rfl rfl rfl) <| .no (gF rfl rfl rfl rfl) <| .no (gF rfl rfl rfl rfl) <| .no (gF rfl rfl rfl rfl) <| .op 0 rfl (pkTV rfl rfl rfl) <| .op 0 rfl (mvV rfl) <| .no (gF rfl rfl rfl rfl) <| .no (gF rfl rfl rfl rfl) <| .no (gF rfl rfl rfl rfl) <| .no (gF rfl rfl rfl rfl) <| .no (gF rfl rfl rfl rfl) <| .no (gF rfl rfl rfl rfl) <| .no (gF rfl rfl rfl rfl) <| .op 0 rfl (pkTV rfl rfl rfl) <| .op 0 rfl (mvV rfl) <| .no (gF rfl rfl rfl rfl) <| .no (gF rfl rfl rfl rfl) <| .no (gF rfl rfl rfl rfl) <| .no (gF rfl rfl rfl rfl) <| .no (gF rfl rfl rfl rfl) <| .no (gF rfl rfl rfl rfl) <| .no (gF rfl rfl rfl rfl) <| .op 0 rfl (pkTV rfl rfl rfl) <| .nilL _ ⟨.ptr rfl, .ptr rfl, cB rfl (mOrT (bnotT (Bool.eq_false_iff.mpr c1))), trivial⟩)
  by_cases c5 : ((!t2_4) || ((!(a0.States == a1.States)) || ((!(a0.Symbols == a1.Symbols)) || ((!((a0.Final.length : Int) == (a1.Final.length : Int))) || ((a0.Trans.length : Int) != (a1.Trans.length : Int)))))) = true
  · rw [if_pos c5] at h
    refine .condT rfl c5 ?_
    refine .seq ?_
    refine .reg0 rfl (.op 0 rfl (asV rfl) <| .nil0) ?_
    replace h := h.symm
    subst h
    refine .keepL [] [(4, .val (.bool false))] [] (by decide) (by decide) ⟨.free rfl rfl, trivial⟩ trivial ?_
    exact .ret rfl
  · rw [if_neg c5] at h
    refine .condF rfl (Bool.eq_false_iff.mpr c5) ?_
    refine .skip ?_
    refine .seq ?_
    refine .seq ?_
    refine .reg0 rfl (.op 0 rfl (asV rfl) <| .nil0) ?_
    refine .block ?_
    refine .keepL [0, 1] [(2, .ptr 0 1 7 0 0), (3, .ptr 1 1 7 0 0), (5, .val (.int .i64 0))] [⟨7, [(TAuto.lit a0)], 0, none⟩, ⟨7, [(TAuto.lit a1)], 0, none⟩] (by decide) (by decide) ⟨.ptr rfl, .ptr rfl, .free rfl rfl, trivial⟩ ⟨⟨_, rfl, bcBox (all2_free rfl)⟩, ⟨_, rfl, bcBox (all2_free rfl)⟩, trivial⟩ ?_
    obtain ⟨o1, hL1, h⟩ := h
    refine .loopB (r10_Same.b1 a0 a1) (fun x1 => listEnv [(2, .ptr 0 1 7 0 0), (3, .ptr 1 1 7 0 0), (5, .val (.int .i64 x1))]) (fun x1 => [⟨7, [(TAuto.lit a0)], 0, none⟩, ⟨7, [(TAuto.lit a1)], 0, none⟩]) (fun _ => listEnv [(2, .ptr 0 1 7 0 0), (3, .ptr 1 1 7 0 0)]) (fun _ => [⟨7, [(TAuto.lit a0)], 0, none⟩, ⟨7, [(TAuto.lit a1)], 0, none⟩]) hL1 (fun r_ => r = r_) ?_ ?_ ?_
    · rintro ⟨⟩ rfl
      try dsimp only [Fin.on] at h
      refine .seq ?_
      refine .seq ?_
      refine .reg0 rfl (.op 0 rfl (asV rfl) <| .nil0) ?_
      refine .block ?_
      refine .keepL [0, 1] [(2, .ptr 0 1 7 0 0), (3, .ptr 1 1 7 0 0), (6, .val (.int .i64 0))] [⟨7, [(TAuto.lit a0)], 0, none⟩, ⟨7, [(TAuto.lit a1)], 0, none⟩] (by decide) (by decide) ⟨.ptr rfl, .ptr rfl, .free rfl rfl, trivial⟩ ⟨⟨_, rfl, bcBox (all2_free rfl)⟩, ⟨_, rfl, bcBox (all2_free rfl)⟩, trivial⟩ ?_
      obtain ⟨o2, hL2, h⟩ := h
      refine .loopB (r10_Same.b2 a0 a1) (fun x2 => listEnv [(2, .ptr 0 1 7 0 0), (3, .ptr 1 1 7 0 0), (6, .val (.int .i64 x2))]) (fun x2 => [⟨7, [(TAuto.lit a0)], 0, none⟩, ⟨7, [(TAuto.lit a1)], 0, none⟩]) (fun _ => listEnv []) (fun _ => []) hL2 (fun r_ => r = r_) ?_ ?_ ?_
      · rintro ⟨⟩ rfl
        try dsimp only [Fin.on] at h
        refine .seq ?_
        refine .reg0 rfl (.op 0 rfl (asV rfl) <| .nil0) ?_
        replace h := h.symm
        subst h
        refine .keepL [] [(4, .val (.bool true))] [] (by decide) (by decide) ⟨.free rfl rfl, trivial⟩ trivial ?_
        exact .ret rfl
      · rintro r_ rfl
        exact h
      · rintro x2 z2 h hn2 hx2 hr2
        dsimp only [r10_Same.b2] at h
        refine .seq ?_
        refine .seq ?_
        refine .reg0 rfl (.op 0 rfl (mvV rfl) <| .op 0 rfl (faP fa35_4 rfl) <| .op 0 rfl (ldP rfl sz33 ag33 rfl) <| .op 0 rfl (lnR (l := a0.Trans) sl33 rfl) <| .op 0 rfl (ltI rfl rfl) <| .nil0) ?_
        by_cases c22 : x2 < (a0.Trans.length : Int)
        · rw [if_pos c22] at h
          refine .condT rfl (decide_eq_true c22) ?_
          refine .skip ?_
          refine .seq ?_
          refine .block ?_
          refine .seq ?_
          obtain ⟨g29_3, h⟩ := h
          obtain ⟨g29_8, h⟩ := h
          refine .room 0 ?_
          refine .room 0 ?_
          refine .reg1 (e1 := listEnv [(2, .ptr 0 1 7 0 0), (3, .ptr 1 1 7 0 0), (6, .val (.int .i64 x2)), (7, .ptr 2 1 9 0 0), (8, .ptr 3 1 9 0 0)]) (H1 := [⟨7, [(TAuto.lit a0)], 0, none⟩, ⟨7, [(TAuto.lit a1)], 0, none⟩, ⟨9, [(TTrans.lit (rdl a0.Trans x2))], 0, none⟩, ⟨9, [(TTrans.lit (rdl a1.Trans x2))], 0, none⟩]) rfl ?_ ?_
          · exact .drawM [(11, 8, .ptr 3 1 9 0 0), (10, 7, .ptr 2 1 9 0 0), (9, 81, .agg (TTrans.lit (rdl a1.Trans x2))), (8, 80, .cptr (TTrans.lit (rdl a1.Trans x2)) 0), (7, 79, .val (.int .i64 x2)), (6, 78, .rows (a1.Trans.map TTrans.cells)), (5, 77, .ptr 1 1 7 0 6), (4, 76, .agg (TTrans.lit (rdl a0.Trans x2))), (3, 75, .cptr (TTrans.lit (rdl a0.Trans x2)) 0), (2, 74, .val (.int .i64 x2)), (1, 73, .rows (a0.Trans.map TTrans.cells)), (0, 72, .ptr 0 1 7 0 6)] [(13, 3, ⟨9, [(TTrans.lit (rdl a1.Trans x2))], 0, none⟩), (12, 2, ⟨9, [(TTrans.lit (rdl a0.Trans x2))], 0, none⟩), (11, 3, ⟨9, [[.val (.int .i64 0), .val (.int .i64 0), .val (.int .i64 0), .val (.bool false), .val (.int .i64 0), .val (.int .u64 0), .val (.slice none 0 0), .val (.slice none 0 0), .val (.slice none 0 0)]], 0, none⟩), (10, 2, ⟨9, [[.val (.int .i64 0), .val (.int .i64 0), .val (.int .i64 0), .val (.bool false), .val (.int .i64 0), .val (.int .u64 0), .val (.slice none 0 0), .val (.slice none 0 0), .val (.slice none 0 0)]], 0, none⟩)] [[], [0], [], [1, 0, 2], [3, 1, 0, 2], [], [5], [], [6, 5, 7], [8, 6, 5, 7], [], [], [10, 4, 3, 1, 0, 2, 11], [11, 9, 8, 6, 5, 7, 12, 10, 4, 3, 1, 0, 2]] (by rfl) (by rfl) (by rfl) (by exact ⟨fun S hS hD hn => .one 0 hS hD hn rfl rfl (faP fa35_4 rfl) rfl rfl rfl, fun S hS hD hn => .one 0 hS hD hn rfl rfl (ldP rfl sz33 ag33 rfl) rfl rfl rfl, fun S hS hD hn => .one 0 hS hD hn rfl rfl (mvV rfl) rfl rfl rfl, fun S hS hD hn => .one 0 hS hD hn rfl rfl (ixR (l := a0.Trans) (lit := TTrans.lit) sl33 rfl rfl (fun _ => rfl) g29_3.1 g29_3.2) rfl rfl rfl, fun S hS hD hn => .one 0 hS hD hn rfl rfl (ldCG rfl sz59 ag59 rfl) rfl rfl rfl, fun S hS hD hn => .one 0 hS hD hn rfl rfl (faP fa35_4 rfl) rfl rfl rfl, fun S hS hD hn => .one 0 hS hD hn rfl rfl (ldP rfl sz33 ag33 rfl) rfl rfl rfl, fun S hS hD hn => .one 0 hS hD hn rfl rfl (mvV rfl) rfl rfl rfl, fun S hS hD hn => .one 0 hS hD hn rfl rfl (ixR (l := a1.Trans) (lit := TTrans.lit) sl33 rfl rfl (fun _ => rfl) g29_8.1 g29_8.2) rfl rfl rfl, fun S hS hD hn => .one 0 hS hD hn rfl rfl (ldCG rfl sz59 ag59 rfl) rfl rfl rfl, fun S hS hD hn => .one 2 hS hD hn rfl rfl (alP (s := 9) ze59 ⟨rfl, by decide, rfl⟩ rfl) rfl rfl rfl, fun S hS hD hn => .one 3 hS hD hn rfl rfl (alP (s := 9) ze59 ⟨rfl, by decide, rfl⟩ rfl) rfl rfl rfl, fun S hS hD hn => .one0 0 rfl rfl (stB (cs0 := [.val (.int .i64 0), .val (.int .i64 0), .val (.int .i64 0), .val (.bool false), .val (.int .i64 0), .val (.int .u64 0), .val (.slice none 0 0), .val (.slice none 0 0), .val (.slice none 0 0)]) (cs := (TTrans.lit (rdl a0.Trans x2))) (cs1 := (TTrans.lit (rdl a0.Trans x2))) rfl rfl sz59 rfl ⟨Nat.le_of_ble_eq_true rfl, rfl⟩ rfl) (drawE_other _ _ _ _ rfl) rfl, fun S hS hD hn => .one0 0 rfl rfl (stB (cs0 := [.val (.int .i64 0), .val (.int .i64 0), .val (.int .i64 0), .val (.bool false), .val (.int .i64 0), .val (.int .u64 0), .val (.slice none 0 0), .val (.slice none 0 0), .val (.slice none 0 0)]) (cs := (TTrans.lit (rdl a1.Trans x2))) (cs1 := (TTrans.lit (rdl a1.Trans x2))) rfl rfl sz59 rfl ⟨Nat.le_of_ble_eq_true rfl, rfl⟩ rfl) (drawE_other _ _ _ _ rfl) rfl, trivial⟩) _ (by exact ⟨.ptr rfl, .ptr rfl, .free rfl rfl, .ptr rfl, .ptr rfl, trivial⟩) (by rfl)
          refine .seq ?_
          obtain ⟨t30_24, g30_24, h⟩ := h
          refine .reg0 (e1 := listEnv [(2, .ptr 0 1 7 0 0), (3, .ptr 1 1 7 0 0), (6, .val (.int .i64 x2)), (108, .val (.bool ((!((rdl a0.Trans x2).From == (rdl a1.Trans x2).From)) || ((!((rdl a0.Trans x2).Sym == (rdl a1.Trans x2).Sym)) || ((!((rdl a0.Trans x2).To == (rdl a1.Trans x2).To)) || (!t30_24))))))]) (H1 := [⟨7, [(TAuto.lit a0)], 0, none⟩, ⟨7, [(TAuto.lit a1)], 0, none⟩, ⟨9, [(TTrans.lit (rdl a0.Trans x2))], 0, none⟩, ⟨9, [(TTrans.lit (rdl a1.Trans x2))], 0, none⟩]) rfl ?_ ?_
          · by_cases c23 : (rdl a0.Trans x2).From = (rdl a1.Trans x2).From
            · by_cases c24 : (rdl a0.Trans x2).Sym = (rdl a1.Trans x2).Sym
              · by_cases c25 : (rdl a0.Trans x2).To = (rdl a1.Trans x2).To
                · exact (.op 0 rfl (faP fa59_0 rfl) <| .op 0 rfl (ldP rfl sz3 ag3 rfl) <| .op 0 rfl (faP fa59_0 rfl) <| .op 0 rfl (ldP rfl sz3 ag3 rfl) <| .op 0 rfl (neI rfl rfl) <| .op 0 rfl (mvV rfl) <| .op 0 (gT rfl rfl rfl (bne_eq_false_iff_eq.mpr c23)) (faP fa59_1 rfl) <| .op 0 (gT rfl rfl rfl (bne_eq_false_iff_eq.mpr c23)) (ldP rfl sz3 ag3 rfl) <| .op 0 (gT rfl rfl rfl (bne_eq_false_iff_eq.mpr c23)) (faP fa59_1 rfl) <| .op 0 (gT rfl rfl rfl (bne_eq_false_iff_eq.mpr c23)) (ldP rfl sz3 ag3 rfl) <| .op 0 (gT rfl rfl rfl (bne_eq_false_iff_eq.mpr c23)) (neI rfl rfl) <| .op 0 rfl (pkFV rfl (bne_eq_false_iff_eq.mpr c23) rfl) <| .op 0 rfl (mvV rfl) <| .op 0 (gT rfl rfl rfl (bne_eq_false_iff_eq.mpr c24)) (faP fa59_2 rfl) <| .op 0 (gT rfl rfl rfl (bne_eq_false_iff_eq.mpr c24)) (ldP rfl sz3 ag3 rfl) <| .op 0 (gT rfl rfl rfl (bne_eq_false_iff_eq.mpr c24)) (faP fa59_2 rfl) <| .op 0 (gT rfl rfl rfl (bne_eq_false_iff_eq.mpr c24)) (ldP rfl sz3 ag3 rfl) <| .op 0 (gT rfl rfl rfl (bne_eq_false_iff_eq.mpr c24)) (neI rfl rfl) <| .op 0 rfl (pkFV rfl (bne_eq_false_iff_eq.mpr c24) rfl) <| .op 0 rfl (mvV rfl) <| .op 0 (gT rfl rfl rfl (bne_eq_false_iff_eq.mpr c25)) (faP fa59_3 rfl) <| .op 0 (gT rfl rfl rfl (bne_eq_false_iff_eq.mpr c25)) (ldG rfl sz48 ag48 rfl) <| .op 0 (gT rfl rfl rfl (bne_eq_false_iff_eq.mpr c25)) (faP fa59_3 rfl) <| .op 0 (gT rfl rfl rfl (bne_eq_false_iff_eq.mpr c25)) (ldG rfl sz48 ag48 rfl) <| .callI (gT rfl rfl rfl (bne_eq_false_iff_eq.mpr c25)) (callee_of rfl go12 rfl) (.pure rfl rfl (r05_Same.D (g30_24 c23 c24 c25))) <| .op 0 (gT rfl rfl rfl (bne_eq_false_iff_eq.mpr c25)) (notB rfl) <| .op 0 rfl (pkFV rfl (bne_eq_false_iff_eq.mpr c25) rfl) <| .nilL _ ⟨.ptr rfl, .ptr rfl, .free rfl rfl, cB rfl (mOrF (bnotF (beq_iff_eq.mpr c23)) (mOrF (bnotF (beq_iff_eq.mpr c24)) (mOrF (bnotF (beq_iff_eq.mpr c25)) rfl))), trivial⟩)
                · exact (.op 0 rfl (faP fa59_0 rfl) <| .op 0 rfl (ldP rfl sz3 ag3 rfl) <| .op 0 rfl (faP fa59_0 rfl) <| .op 0 rfl (ldP rfl sz3 ag3 rfl) <| .op 0 rfl (neI rfl rfl) <| .op 0 rfl (mvV rfl) <| .op 0 (gT rfl rfl rfl (bne_eq_false_iff_eq.mpr c23)) (faP fa59_1 rfl) <| .op 0 (gT rfl rfl rfl (bne_eq_false_iff_eq.mpr c23)) (ldP rfl sz3 ag3 rfl) <| .op 0 (gT rfl rfl rfl (bne_eq_false_iff_eq.mpr c23)) (faP fa59_1 rfl) <| .op 0 (gT rfl rfl rfl (bne_eq_false_iff_eq.mpr c23)) (ldP rfl sz3 ag3 rfl) <| .op 0 (gT rfl rfl rfl (bne_eq_false_iff_eq.mpr c23)) (neI rfl rfl) <| .op 0 rfl (pkFV rfl (bne_eq_false_iff_eq.mpr c23) rfl) <| .op 0 rfl (mvV rfl) <| .op 0 (gT rfl rfl rfl (bne_eq_false_iff_eq.mpr c24)) (faP fa59_2 rfl) <| .op 0 (gT rfl rfl rfl (bne_eq_false_iff_eq.mpr c24)) (ldP rfl sz3 ag3 rfl) <| .op 0 (gT rfl rfl rfl (bne_eq_false_iff_eq.mpr c24)) (faP fa59_2 rfl) <| .op 0 (gT rfl rfl rfl (bne_eq_false_iff_eq.mpr c24)) (ldP rfl sz3 ag3 rfl) <| .op 0 (gT rfl rfl rfl (bne_eq_false_iff_eq.mpr c24)) (neI rfl rfl) <| .op 0 rfl (pkFV rfl (bne_eq_false_iff_eq.mpr c24) rfl) <| .op 0 rfl (mvV rfl) <| .no (gF rfl rfl rfl (bne_iff_ne.mpr c25)) <| .no (gF rfl rfl rfl (bne_iff_ne.mpr c25)) <| .no (gF rfl rfl rfl (bne_iff_ne.mpr c25)) <| .no (gF rfl rfl rfl (bne_iff_ne.mpr c25)) <| .no (gF rfl rfl rfl (bne_iff_ne.mpr c25)) <| .no (gF rfl rfl rfl (bne_iff_ne.mpr c25)) <| .op 0 rfl (pkTV rfl (bne_iff_ne.mpr c25) rfl) <| .nilL _ ⟨.ptr rfl, .ptr rfl, .free rfl rfl, cB rfl (mOrF (bnotF (beq_iff_eq.mpr c23)) (mOrF (bnotF (beq_iff_eq.mpr c24)) (mOrT (bnotT (beq_eq_false_iff_ne.mpr c25))))), trivial⟩)
              · exact (.op 0 rfl (faP fa59_0 rfl) <| .op 0 rfl (ldP rfl sz3 ag3 rfl) <| .op 0 rfl (faP fa59_0 rfl) <| .op 0 rfl (ldP rfl sz3 ag3 rfl) <| .op 0 rfl (neI rfl rfl) <| .op 0 rfl (mvV rfl) <| .op 0 (gT rfl rfl rfl (bne_eq_false_iff_eq.mpr c23)) (faP fa59_1 rfl) <| .op 0 (gT rfl rfl rfl (bne_eq_false_iff_eq.mpr c23)) (ldP rfl sz3 ag3 rfl) <| .op 0 (gT rfl rfl rfl (bne_eq_false_iff_eq.mpr c23)) (faP fa59_1 rfl) <| .op 0 (gT rfl rfl rfl (bne_eq_false_iff_eq.mpr c23)) (ldP rfl sz3 ag3 rfl) <| .op 0 (gT rfl rfl rfl (bne_eq_false_iff_eq.mpr c23)) (neI rfl rfl) <| .op 0 rfl (pkFV rfl (bne_eq_false_iff_eq.mpr c23) rfl) <| .op 0 rfl (mvV rfl) <| .no (gF rfl rfl rfl (bne_iff_ne.mpr c24)) <| .no (gF rfl rfl rfl (bne_iff_ne.mpr c24)) <| .no (gF rfl rfl rfl (bne_iff_ne.mpr c24)) <| .no (gF rfl rfl rfl (bne_iff_ne.mpr c24)) <| .no (gF rfl rfl rfl (bne_iff_ne.mpr c24)) <| .op 0 rfl (pkTV rfl (bne_iff_ne.mpr c24) rfl) <| .op 0 rfl (mvV rfl) <| .no (gF rfl rfl rfl rfl) <| .no (gF rfl rfl rfl rfl) <| .no (gF rfl rfl rfl rfl) <| .no (gF rfl rfl rfl rfl) <| .no (gF rfl rfl rfl rfl) <| .no (gF rfl rfl rfl rfl) <| .op 0 rfl (pkTV rfl rfl rfl) <| .nilL _ ⟨.ptr rfl, .ptr rfl, .free rfl rfl, cB rfl (mOrF (bnotF (beq_iff_eq.mpr c23)) (mOrT (bnotT (beq_eq_false_iff_ne.mpr c24)))), trivial⟩)
            · exact (.op 0 rfl (faP fa59_0 rfl) <| .op 0 rfl (ldP rfl sz3 ag3 rfl) <| .op 0 rfl (faP fa59_0 rfl) <| .op 0 rfl (ldP rfl sz3 ag3 rfl) <| .op 0 rfl (neI rfl rfl) <| .op 0 rfl (mvV rfl) <| .no (gF rfl rfl rfl (bne_iff_ne.mpr c23)) <| .no (gF rfl rfl rfl (bne_iff_ne.mpr c23)) <| .no (gF rfl rfl rfl (bne_iff_ne.mpr c23)) <| .no (gF rfl rfl rfl (bne_iff_ne.mpr c23)) <| .no (gF rfl rfl rfl (bne_iff_ne.mpr c23)) <| .op 0 rfl (pkTV rfl (bne_iff_ne.mpr c23) rfl) <| .op 0 rfl (mvV rfl) <| .no (gF rfl rfl rfl rfl) <| .no (gF rfl rfl rfl rfl) <| .no (gF rfl rfl rfl rfl) <| .no (gF rfl rfl rfl rfl) <| .no (gF rfl rfl rfl rfl) <| .op 0 rfl (pkTV rfl rfl rfl) <| .op 0 rfl (mvV rfl) <| .no (gF rfl rfl rfl rfl) <| .no (gF rfl rfl rfl rfl) <| .no (gF rfl rfl rfl rfl) <| .no (gF rfl rfl rfl rfl) <| .no (gF rfl rfl rfl rfl) <| .no (gF rfl rfl rfl rfl) <| .op 0 rfl (pkTV rfl rfl rfl) <| .nilL _ ⟨.ptr rfl, .ptr rfl, .free rfl rfl, cB rfl (mOrT (bnotT (beq_eq_false_iff_ne.mpr c23))), trivial⟩)
          by_cases c26 : ((!((rdl a0.Trans x2).From == (rdl a1.Trans x2).From)) || ((!((rdl a0.Trans x2).Sym == (rdl a1.Trans x2).Sym)) || ((!((rdl a0.Trans x2).To == (rdl a1.Trans x2).To)) || (!t30_24)))) = true
          · rw [if_pos c26] at h
            refine .condT rfl c26 ?_
            refine .seq ?_
            refine .reg0 rfl (.op 0 rfl (asV rfl) <| .nil0) ?_
            have q6 := hr2 _ h
            replace q6 := q6.symm
            subst q6
            refine .keepL [] [(4, .val (.bool false))] [] (by decide) (by decide) ⟨.free rfl rfl, trivial⟩ trivial ?_
            exact .ret rfl
          · rw [if_neg c26] at h
            refine .condF rfl (Bool.eq_false_iff.mpr c26) ?_
            refine .skip ?_
            refine .inBlock ?_
            refine .reg0 rfl (.op 0 rfl (mvV rfl) <| .op 0 rfl (addI rfl rfl) <| .op 0 rfl (asV rfl) <| .nil0) ?_
            refine .keepL [0, 1] [(2, .ptr 0 1 7 0 0), (3, .ptr 1 1 7 0 0), (6, .val (.int .i64 (IntKind.i64.wrap (x2 + 1))))] [⟨7, [(TAuto.lit a0)], 0, none⟩, ⟨7, [(TAuto.lit a1)], 0, none⟩] (by decide) (by decide) ⟨.ptr rfl, .ptr rfl, .free rfl rfl, trivial⟩ ⟨⟨_, rfl, bcBox (all2_free rfl)⟩, ⟨_, rfl, bcBox (all2_free rfl)⟩, trivial⟩ ?_
            exact hn2 _ h
        · rw [if_neg c22] at h
          refine .condF rfl (decide_eq_false c22) ?_
          refine .exit rfl ?_
          refine .keepL [] [] [] (by decide) (by decide) trivial trivial ?_
          exact hx2 _ h
    · rintro r_ rfl
      exact h
    · rintro x1 z1 h hn1 hx1 hr1
      dsimp only [r10_Same.b1] at h
      refine .seq ?_
      refine .seq ?_
      refine .reg0 rfl (.op 0 rfl (mvV rfl) <| .op 0 rfl (faP fa35_3 rfl) <| .op 0 rfl (ldP rfl sz29 ag29 rfl) <| .op 0 rfl (lnR (l := a0.Final) sl29 rfl) <| .op 0 rfl (ltI rfl rfl) <| .nil0) ?_
      by_cases c10 : x1 < (a0.Final.length : Int)
      · rw [if_pos c10] at h
        refine .condT rfl (decide_eq_true c10) ?_
        refine .skip ?_
        refine .seq ?_
        refine .block ?_
        refine .seq ?_
        obtain ⟨g14_3, h⟩ := h
        obtain ⟨g14_8, h⟩ := h
        refine .reg1 (e1 := listEnv [(2, .ptr 0 1 7 0 0), (3, .ptr 1 1 7 0 0), (5, .val (.int .i64 x1)), (64, .val (.bool ((rdl a0.Final x1) != (rdl a1.Final x1))))]) (H1 := [⟨7, [(TAuto.lit a0)], 0, none⟩, ⟨7, [(TAuto.lit a1)], 0, none⟩]) rfl ?_ ?_
        · exact .drawM [(10, 64, .val (.bool ((rdl a0.Final x1) != (rdl a1.Final x1)))), (9, 63, .val (.int .i64 (rdl a1.Final x1))), (8, 62, .cptr ((cInt .i64) (rdl a1.Final x1)) 0), (7, 61, .val (.int .i64 x1)), (6, 60, .rows (a1.Final.map (cInt .i64))), (5, 59, .ptr 1 1 7 0 5), (4, 58, .val (.int .i64 (rdl a0.Final x1))), (3, 57, .cptr ((cInt .i64) (rdl a0.Final x1)) 0), (2, 56, .val (.int .i64 x1)), (1, 55, .rows (a0.Final.map (cInt .i64))), (0, 54, .ptr 0 1 7 0 5)] [] [[], [0], [], [1, 0, 2], [3, 1, 0, 2], [], [5], [], [6, 5, 7], [8, 6, 5, 7], [4, 3, 1, 0, 2, 9, 8, 6, 5, 7]] (by rfl) (by rfl) (by rfl) (by exact ⟨fun S hS hD hn => .one 0 hS hD hn rfl rfl (faP fa35_3 rfl) rfl rfl rfl, fun S hS hD hn => .one 0 hS hD hn rfl rfl (ldP rfl sz29 ag29 rfl) rfl rfl rfl, fun S hS hD hn => .one 0 hS hD hn rfl rfl (mvV rfl) rfl rfl rfl, fun S hS hD hn => .one 0 hS hD hn rfl rfl (ixR (l := a0.Final) (lit := (cInt .i64)) sl29 rfl rfl (fun _ => rfl) g14_3.1 g14_3.2) rfl rfl rfl, fun S hS hD hn => .one 0 hS hD hn rfl rfl (ldC rfl sz3 ag3 rfl) rfl rfl rfl, fun S hS hD hn => .one 0 hS hD hn rfl rfl (faP fa35_3 rfl) rfl rfl rfl, fun S hS hD hn => .one 0 hS hD hn rfl rfl (ldP rfl sz29 ag29 rfl) rfl rfl rfl, fun S hS hD hn => .one 0 hS hD hn rfl rfl (mvV rfl) rfl rfl rfl, fun S hS hD hn => .one 0 hS hD hn rfl rfl (ixR (l := a1.Final) (lit := (cInt .i64)) sl29 rfl rfl (fun _ => rfl) g14_8.1 g14_8.2) rfl rfl rfl, fun S hS hD hn => .one 0 hS hD hn rfl rfl (ldC rfl sz3 ag3 rfl) rfl rfl rfl, fun S hS hD hn => .one 0 hS hD hn rfl rfl (neI rfl rfl) rfl rfl rfl, trivial⟩) _ (by exact ⟨.ptr rfl, .ptr rfl, .free rfl rfl, .free rfl rfl, trivial⟩) (by rfl)
        by_cases c11 : (rdl a0.Final x1) = (rdl a1.Final x1)
        · rw [if_pos c11] at h
          refine .condF rfl (bne_eq_false_iff_eq.mpr c11) ?_
          refine .skip ?_
          refine .inBlock ?_
          refine .reg0 rfl (.op 0 rfl (mvV rfl) <| .op 0 rfl (addI rfl rfl) <| .op 0 rfl (asV rfl) <| .nil0) ?_
          refine .keepL [0, 1] [(2, .ptr 0 1 7 0 0), (3, .ptr 1 1 7 0 0), (5, .val (.int .i64 (IntKind.i64.wrap (x1 + 1))))] [⟨7, [(TAuto.lit a0)], 0, none⟩, ⟨7, [(TAuto.lit a1)], 0, none⟩] (by decide) (by decide) ⟨.ptr rfl, .ptr rfl, .free rfl rfl, trivial⟩ ⟨⟨_, rfl, bcBox (all2_free rfl)⟩, ⟨_, rfl, bcBox (all2_free rfl)⟩, trivial⟩ ?_
          exact hn1 _ h
        · rw [if_neg c11] at h
          refine .condT rfl (bne_iff_ne.mpr c11) ?_
          refine .seq ?_
          refine .reg0 rfl (.op 0 rfl (asV rfl) <| .nil0) ?_
          have q3 := hr1 _ h
          replace q3 := q3.symm
          subst q3
          refine .keepL [] [(4, .val (.bool false))] [] (by decide) (by decide) ⟨.free rfl rfl, trivial⟩ trivial ?_
          exact .ret rfl
      · rw [if_neg c10] at h
        refine .condF rfl (decide_eq_false c10) ?_
        refine .exit rfl ?_
        refine .keepL [0, 1] [(2, .ptr 0 1 7 0 0), (3, .ptr 1 1 7 0 0)] [⟨7, [(TAuto.lit a0)], 0, none⟩, ⟨7, [(TAuto.lit a1)], 0, none⟩] (by decide) (by decide) ⟨.ptr rfl, .ptr rfl, trivial⟩ ⟨⟨_, rfl, bcBox (all2_free rfl)⟩, ⟨_, rfl, bcBox (all2_free rfl)⟩, trivial⟩ ?_
        exact hx1 _ h
def r10_State.f (a0 : TAuto) (a1 : Int) (r : Bool) : Prop :=
  r = ((decide (a1 ≥ 0)) && (decide (a1 < a0.States)))
theorem r10_State.D {a0 : TAuto} {a1 : Int} {r : Bool} (h : r10_State.f a0 a1 r) : D Try.prog X (.callH 39 [.agg (TAuto.lit a0), .val (.int .i64 a1)] [] (.val (.bool r)) []) := by
  unfold r10_State.f at h
  refine .enter 13 0 fn39 rfl rfl rfl ?_
  refine .seq ?_
  refine .room 0 ?_
  refine .reg0 rfl (.op 0 rfl (bxP (s := 7) (cs := (TAuto.lit a0)) rfl ⟨rfl, by decide, rfl⟩ rfl) <| .op 0 rfl (asV rfl) <| .nil0) ?_
  refine .seq ?_
  refine .reg0 (e1 := listEnv [(4, .val (.bool ((decide (a1 ≥ 0)) && (decide (a1 < a0.States)))))]) (H1 := [⟨7, [(TAuto.lit a0)], 0, none⟩]) rfl ?_ ?_
  · by_cases c1 : a1 ≥ 0
    · exact (.op 0 rfl (mvV rfl) <| .op 0 rfl (geI rfl rfl) <| .op 0 rfl (mvV rfl) <| .op 0 (gT rfl rfl rfl (decide_eq_true c1)) (mvV rfl) <| .op 0 (gT rfl rfl rfl (decide_eq_true c1)) (faP fa35_1 rfl) <| .op 0 (gT rfl rfl rfl (decide_eq_true c1)) (ldP rfl sz3 ag3 rfl) <| .op 0 (gT rfl rfl rfl (decide_eq_true c1)) (ltI rfl rfl) <| .op 0 rfl (pkTV rfl (decide_eq_true c1) rfl) <| .op 0 rfl (asV rfl) <| .nilL _ ⟨cB rfl (mAndT (decide_eq_true c1) rfl), trivial⟩)
    · exact (.op 0 rfl (mvV rfl) <| .op 0 rfl (geI rfl rfl) <| .op 0 rfl (mvV rfl) <| .no (gF rfl rfl rfl (decide_eq_false c1)) <| .no (gF rfl rfl rfl (decide_eq_false c1)) <| .no (gF rfl rfl rfl (decide_eq_false c1)) <| .no (gF rfl rfl rfl (decide_eq_false c1)) <| .op 0 rfl (pkFV rfl (decide_eq_false c1) rfl) <| .op 0 rfl (asV rfl) <| .nilL _ ⟨cB rfl (mAndF (decide_eq_false c1)), trivial⟩)
  replace h := h.symm
  subst h
  refine .keepL [] [(4, .val (.bool ((decide (a1 ≥ 0)) && (decide (a1 < a0.States)))))] [] (by decide) (by decide) ⟨.free rfl rfl, trivial⟩ trivial ?_
  exact .ret rfl
end Go.RM.Try
