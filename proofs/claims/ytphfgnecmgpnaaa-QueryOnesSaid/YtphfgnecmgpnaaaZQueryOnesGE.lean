/- GE, for the statement QueryOnes: what it needs, no more. -/
import Derived.Test.YtphfgnecmgpnaaaZQueryOnesGD
set_option linter.unusedVariables false
set_option maxRecDepth 8000
set_option maxHeartbeats 4000000
namespace Go.RM.Try
open Go.RM Go.Proofs
variable {X : FuncId → List PV → Heap → PV → Heap → Prop}
def query_One.b1 (a0 : TPds) (a1 : TConf) : (Int × (List TTrans) × Int × Int) → Rnd ((Int × (List TTrans) × Int × Int)) ((Int × (List TTrans) × Int)) (TAuto × Int) → Prop := fun (x1, x2, x3, x4) z1 => if x4 < (a1.W.length : Int) then (((InR x4 a1.W.length)) ∧ ∃ t23_7 : TWeight, (query_one.f a0 t23_7) ∧ ((Fits (x2.length + 1) 120)) ∧ z1 = .next ((IntKind.i64.wrap (x1 + 1)), (x2 ++ [(TTrans.mk x3 (rdl a1.W x4) x1 t23_7)]), x1, (IntKind.i64.wrap (x4 + 1)))) else (z1 = .exit (x1, x2, x3))
def query_One.f (a0 : TPds) (a1 : TConf) (r : TAuto × Int) : Prop :=
  ∃ t2_2 : Int, (steps_Check.f a0 a1 t2_2) ∧ if t2_2 = 0 then (if (IntKind.i64.wrap (a0.States + (a1.W.length : Int))) > 4096 then (r = ((TAuto.mk (TSpace.mk 0 0 []) 0 0 [] []), 3)) else (∃ t6_1 : TAuto, (query_base_o0Trans.f a0 t6_1) ∧ ∃ o1 : Fin ((Int × (List TTrans) × Int)) (TAuto × Int), Loop (query_One.b1 a0 a1) (t6_1.States, t6_1.Trans, a1.P, 0) o1 ∧ o1.on (fun (x5, x6, x7) => r = ((TAuto.mk t6_1.Space x5 t6_1.Symbols [x7] x6), 0)) (fun r_ => r = r_))) else (r = ((TAuto.mk (TSpace.mk 0 0 []) 0 0 [] []), t2_2))
theorem query_One.D {a0 : TPds} {a1 : TConf} {r : TAuto × Int} (h : query_One.f a0 a1 r) : D Try.prog X (.callH 6 [.agg (TPds.lit a0), .agg (TConf.lit a1)] [] (.tuple [.agg (TAuto.lit r.1), .val (.int .i64 r.2)]) []) := by
  unfold query_One.f at h
  refine .enter 60 0 fn6 rfl rfl rfl ?_
  refine .seq ?_
  refine .room 0 ?_
  refine .room 0 ?_
  refine .room 0 ?_
  refine .reg0 rfl (.op 0 rfl (bxP (s := 6) (cs := (TPds.lit a0)) rfl ⟨rfl, by decide, rfl⟩ rfl) <| .op 1 rfl (bxP (s := 2) (cs := (TConf.lit a1)) rfl ⟨rfl, by decide, rfl⟩ rfl) <| .op 2 rfl (alP (s := 7) ze35 ⟨rfl, by decide, rfl⟩ rfl) <| .op 0 rfl (asV rfl) <| .nil0) ?_
  refine .seq ?_
  refine .seq ?_
  obtain ⟨t2_2, g2_2, h⟩ := h
  refine .reg0 rfl (.op 0 rfl (ldG rfl sz28 ag28 rfl) <| .op 0 rfl (ldG rfl sz31 ag31 rfl) <| .callI rfl (callee_of rfl go18 rfl) (.pure rfl rfl (steps_Check.D g2_2)) <| .op 0 rfl (asV rfl) <| .nil0) ?_
  refine .seq ?_
  refine .reg0 rfl (.op 0 rfl (mvV rfl) <| .op 0 rfl (neI rfl rfl) <| .nil0) ?_
  by_cases c1 : t2_2 = 0
  · rw [if_pos c1] at h
    refine .condF rfl (bne_eq_false_iff_eq.mpr c1) ?_
    refine .skip ?_
    refine .seq ?_
    refine .seq ?_
    refine .reg0 rfl (.op 0 rfl (faP fa28_1 rfl) <| .op 0 rfl (ldP rfl sz3 ag3 rfl) <| .op 0 rfl (faP fa31_1 rfl) <| .op 0 rfl (ldP rfl sz29 ag29 rfl) <| .op 0 rfl (lnR (l := a1.W) sl29 rfl) <| .op 0 rfl (addI rfl rfl) <| .op 0 rfl (gtI rfl rfl) <| .nil0) ?_
    by_cases c2 : (IntKind.i64.wrap (a0.States + (a1.W.length : Int))) > 4096
    · rw [if_pos c2] at h
      refine .condT rfl (decide_eq_true c2) ?_
      refine .seq ?_
      refine .reg0 rfl (.op 0 rfl (bldS (cs := [.val (.int .i64 0), .val (.int .i64 0), .val (.slice none 0 0), .val (.int .i64 0), .val (.int .i64 0), .val (.slice none 0 0), .val (.slice none 0 0)]) ze35 pl35 rfl rfl) <| .op 0 rfl (stB (cs0 := [.val (.int .i64 0), .val (.int .i64 0), .val (.slice none 0 0), .val (.int .i64 0), .val (.int .i64 0), .val (.slice none 0 0), .val (.slice none 0 0)]) (cs := [.val (.int .i64 0), .val (.int .i64 0), .val (.slice none 0 0), .val (.int .i64 0), .val (.int .i64 0), .val (.slice none 0 0), .val (.slice none 0 0)]) (cs1 := [.val (.int .i64 0), .val (.int .i64 0), .val (.slice none 0 0), .val (.int .i64 0), .val (.int .i64 0), .val (.slice none 0 0), .val (.slice none 0 0)]) rfl rfl sz35 rfl ⟨Nat.le_of_ble_eq_true rfl, rfl⟩ rfl) <| .op 0 rfl (asV rfl) <| .nil0) ?_
      replace h := h.symm
      subst h
      refine .keepL [] [(4, .cptr [.val (.int .i64 0), .val (.int .i64 0), .rows (([] : List TSpace).map TSpace.cells), .val (.int .i64 0), .val (.int .i64 0), .rows (([] : List Int).map (cInt .i64)), .rows (([] : List TTrans).map TTrans.cells)] 0), (5, .val (.int .i64 3))] [] (by decide) (by decide) ⟨cFixP rfl rfl (.cons (.free rfl rfl) <| .cons (.free rfl rfl) <| .cons (.nil) <| .cons (.free rfl rfl) <| .cons (.free rfl rfl) <| .cons (.nil) <| .cons (.nil) <| .nil), .free rfl rfl, trivial⟩ trivial ?_
      exact .ret rfl
    · rw [if_neg c2] at h
      refine .condF rfl (decide_eq_false c2) ?_
      refine .skip ?_
      refine .seq ?_
      obtain ⟨t6_1, g6_1, h⟩ := h
      refine .room 0 ?_
      refine .room 0 ?_
      refine .room 0 ?_
      refine .reg0 rfl (.op 0 rfl (ldG rfl sz28 ag28 rfl) <| .callI rfl (callee_of rfl go19 rfl) (.focus (args' := [.agg (TPds.lit a0)]) (H0 := []) (Hc := [⟨9, t6_1.Trans.map TTrans.cells, 0, none⟩, ⟨7, [[.val (.int .i64 t6_1.Space.Tag), .val (.int .i64 t6_1.Space.Dim), .rows (t6_1.Space.Parts.map TSpace.cells), .val (.int .i64 t6_1.States), .val (.int .i64 t6_1.Symbols), .rows (t6_1.Final.map (cInt .i64)), .own 0 t6_1.Trans.length]], 0, none⟩]) (Hd := [⟨9, t6_1.Trans.map TTrans.cells, 0, none⟩, ⟨7, [[.val (.int .i64 t6_1.Space.Tag), .val (.int .i64 t6_1.Space.Dim), .rows (t6_1.Space.Parts.map TSpace.cells), .val (.int .i64 t6_1.States), .val (.int .i64 t6_1.Symbols), .rows (t6_1.Final.map (cInt .i64)), .own 4 t6_1.Trans.length]], 0, none⟩]) [] [] [4, 5] false (.cons (.free rfl rfl) <| .nil) (HConvL.heap trivial) (by decide) rfl rfl (query_base_o0Trans.D g6_1) (cAgg (.cons (.free rfl rfl) <| .cons (.free rfl rfl) <| .cons (.free rfl rfl) <| .cons (.free rfl rfl) <| .cons (.free rfl rfl) <| .cons (.free rfl rfl) <| .cons (.own rfl) <| .nil)) (.cons (bcRow (l := t6_1.Trans) sl33 (Nat.le_refl _) rfl) <| .cons (bcBox (.cons (.free rfl rfl) <| .cons (.free rfl rfl) <| .cons (.free rfl rfl) <| .cons (.free rfl rfl) <| .cons (.free rfl rfl) <| .cons (.free rfl rfl) <| .cons (.own rfl) <| .nil)) <| .nil) rfl (.inr (.inl rfl)) rfl) <| .op 3 rfl (alP (s := 7) ze35 ⟨rfl, by decide, rfl⟩ rfl) <| .op 0 rfl (stB (cs0 := [.val (.int .i64 0), .val (.int .i64 0), .val (.slice none 0 0), .val (.int .i64 0), .val (.int .i64 0), .val (.slice none 0 0), .val (.slice none 0 0)]) (cs := [.val (.int .i64 t6_1.Space.Tag), .val (.int .i64 t6_1.Space.Dim), .rows (t6_1.Space.Parts.map TSpace.cells), .val (.int .i64 t6_1.States), .val (.int .i64 t6_1.Symbols), .rows (t6_1.Final.map (cInt .i64)), .own 4 t6_1.Trans.length]) (cs1 := [.val (.int .i64 t6_1.Space.Tag), .val (.int .i64 t6_1.Space.Dim), .rows (t6_1.Space.Parts.map TSpace.cells), .val (.int .i64 t6_1.States), .val (.int .i64 t6_1.Symbols), .rows (t6_1.Final.map (cInt .i64)), .own 4 t6_1.Trans.length]) rfl rfl sz35 rfl ⟨Nat.le_of_ble_eq_true rfl, rfl⟩ rfl) <| .nil0) ?_
      refine .seq ?_
      refine .reg0 rfl (.op 0 rfl (faP fa31_0 rfl) <| .op 0 rfl (ldP rfl sz3 ag3 rfl) <| .op 0 rfl (asV rfl) <| .nil0) ?_
      refine .seq ?_
      refine .seq ?_
      refine .reg0 rfl (.op 0 rfl (faP fa31_1 rfl) <| .op 0 rfl (ldP rfl sz29 ag29 rfl) <| .op 0 rfl (lnR (l := a1.W) sl29 rfl) <| .op 0 rfl (mvV rfl) <| .nil0) ?_
      refine .block ?_
      refine .keepL [0, 2, 3, 4] [(2, .ptr 0 1 6 0 0), (4, .ptr 1 1 7 0 0), (7, .ptr 2 1 7 0 0), (8, .val (.int .i64 a1.P)), (31, .rows (a1.W.map (cInt .i64))), (32, .val (.int .i64 (a1.W.length : Int))), (33, .val (.int .i64 0))] [⟨6, [(TPds.lit a0)], 0, none⟩, ⟨7, [[.val (.int .i64 0), .val (.int .i64 0), .val (.slice none 0 0), .val (.int .i64 0), .val (.int .i64 0), .val (.slice none 0 0), .val (.slice none 0 0)]], 0, none⟩, ⟨7, [[.val (.int .i64 t6_1.Space.Tag), .val (.int .i64 t6_1.Space.Dim), .rows (t6_1.Space.Parts.map TSpace.cells), .val (.int .i64 t6_1.States), .val (.int .i64 t6_1.Symbols), .rows (t6_1.Final.map (cInt .i64)), .own 3 t6_1.Trans.length]], 0, none⟩, ⟨9, t6_1.Trans.map TTrans.cells, 0, none⟩] (by decide) (by decide) ⟨.ptr rfl, .ptr rfl, .ptr rfl, .free rfl rfl, .free rfl rfl, .free rfl rfl, .free rfl rfl, trivial⟩ ⟨⟨_, rfl, bcBox (all2_free rfl)⟩, ⟨_, rfl, bcBox (all2_free rfl)⟩, ⟨_, rfl, bcBox (.cons (.free rfl rfl) <| .cons (.free rfl rfl) <| .cons (.free rfl rfl) <| .cons (.free rfl rfl) <| .cons (.free rfl rfl) <| .cons (.free rfl rfl) <| .cons (.own rfl) <| .nil)⟩, ⟨_, rfl, bcRow (l := t6_1.Trans) sl33 (Nat.le_refl _) rfl⟩, trivial⟩ ?_
      obtain ⟨o1, hL1, h⟩ := h
      refine .loopB (query_One.b1 a0 a1) (fun (x1, x2, x3, x4) => listEnv [(2, .ptr 0 1 6 0 0), (4, .ptr 1 1 7 0 0), (7, .ptr 2 1 7 0 0), (8, .val (.int .i64 x3)), (31, .rows (a1.W.map (cInt .i64))), (32, .val (.int .i64 (a1.W.length : Int))), (33, .val (.int .i64 x4))]) (fun (x1, x2, x3, x4) => [⟨6, [(TPds.lit a0)], 0, none⟩, ⟨7, [[.val (.int .i64 0), .val (.int .i64 0), .val (.slice none 0 0), .val (.int .i64 0), .val (.int .i64 0), .val (.slice none 0 0), .val (.slice none 0 0)]], 0, none⟩, ⟨7, [[.val (.int .i64 t6_1.Space.Tag), .val (.int .i64 t6_1.Space.Dim), .rows (t6_1.Space.Parts.map TSpace.cells), .val (.int .i64 x1), .val (.int .i64 t6_1.Symbols), .rows (t6_1.Final.map (cInt .i64)), .own 3 x2.length]], 0, none⟩, ⟨9, x2.map TTrans.cells, 0, none⟩]) (fun (x5, x6, x7) => listEnv [(4, .ptr 0 1 7 0 0), (7, .ptr 1 1 7 0 0), (8, .val (.int .i64 x7))]) (fun (x5, x6, x7) => [⟨7, [[.val (.int .i64 0), .val (.int .i64 0), .val (.slice none 0 0), .val (.int .i64 0), .val (.int .i64 0), .val (.slice none 0 0), .val (.slice none 0 0)]], 0, none⟩, ⟨7, [[.val (.int .i64 t6_1.Space.Tag), .val (.int .i64 t6_1.Space.Dim), .rows (t6_1.Space.Parts.map TSpace.cells), .val (.int .i64 x5), .val (.int .i64 t6_1.Symbols), .rows (t6_1.Final.map (cInt .i64)), .own 2 x6.length]], 0, none⟩, ⟨9, x6.map TTrans.cells, 0, none⟩]) hL1 (fun r_ => r = r_) ?_ ?_ ?_
      · rintro ⟨x5, x6, x7⟩ rfl
        try dsimp only [Fin.on] at h
        refine .seq ?_
        refine .room 0 ?_
        refine .reg0 rfl (.op 0 rfl (mvV rfl) <| .op 3 rfl (bldL (s := 1) (cs := [.val (.int .i64 x7)]) un29 sz3 ze3 ⟨by decide, rfl, by decide⟩ rfl rfl rfl rfl) <| .op 0 rfl (faP fa35_3 rfl) <| .op 0 rfl (stB (cs0 := [.val (.int .i64 t6_1.Space.Tag), .val (.int .i64 t6_1.Space.Dim), .rows (t6_1.Space.Parts.map TSpace.cells), .val (.int .i64 x5), .val (.int .i64 t6_1.Symbols), .rows (t6_1.Final.map (cInt .i64)), .own 2 x6.length]) (cs := [.own 3 ([x7].length)]) (cs1 := [.val (.int .i64 t6_1.Space.Tag), .val (.int .i64 t6_1.Space.Dim), .rows (t6_1.Space.Parts.map TSpace.cells), .val (.int .i64 x5), .val (.int .i64 t6_1.Symbols), .own 3 ([x7].length), .own 2 x6.length]) rfl rfl sz29 rfl ⟨Nat.le_of_ble_eq_true rfl, rfl⟩ rfl) <| .nil0) ?_
        refine .seq ?_
        refine .reg0 rfl (.op 0 rfl (ldG rfl sz35 ag35 rfl) <| .op 0 rfl (stB (cs0 := [.val (.int .i64 0), .val (.int .i64 0), .val (.slice none 0 0), .val (.int .i64 0), .val (.int .i64 0), .val (.slice none 0 0), .val (.slice none 0 0)]) (cs := [.val (.int .i64 t6_1.Space.Tag), .val (.int .i64 t6_1.Space.Dim), .rows (t6_1.Space.Parts.map TSpace.cells), .val (.int .i64 x5), .val (.int .i64 t6_1.Symbols), .own 3 ([x7].length), .own 2 x6.length]) (cs1 := [.val (.int .i64 t6_1.Space.Tag), .val (.int .i64 t6_1.Space.Dim), .rows (t6_1.Space.Parts.map TSpace.cells), .val (.int .i64 x5), .val (.int .i64 t6_1.Symbols), .own 3 ([x7].length), .own 2 x6.length]) rfl rfl sz35 rfl ⟨Nat.le_of_ble_eq_true rfl, rfl⟩ rfl) <| .op 0 rfl (asV rfl) <| .nil0) ?_
        replace h := h.symm
        subst h
        refine .keepL [] [(4, .cptr [.val (.int .i64 t6_1.Space.Tag), .val (.int .i64 t6_1.Space.Dim), .rows (t6_1.Space.Parts.map TSpace.cells), .val (.int .i64 x5), .val (.int .i64 t6_1.Symbols), .rows ([x7].map (cInt .i64)), .rows (x6.map TTrans.cells)] 0), (5, .val (.int .i64 0))] [] (by decide) (by decide) ⟨cFixP rfl rfl (.cons (.free rfl rfl) <| .cons (.free rfl rfl) <| .cons (.free rfl rfl) <| .cons (.free rfl rfl) <| .cons (.free rfl rfl) <| .cons (cFixO (l := [x7]) sl29 rfl rfl rfl rfl) <| .cons (cFixO (l := x6) sl33 rfl rfl rfl rfl) <| .nil), .free rfl rfl, trivial⟩ trivial ?_
        exact .ret rfl
      · rintro r_ rfl
        exact h
      · rintro ⟨x1, x2, x3, x4⟩ z1 h hn1 hx1 hr1
        dsimp only [query_One.b1] at h
        refine .seq ?_
        refine .reg0 rfl (.op 0 rfl (ltI rfl rfl) <| .nil0) ?_
        refine .seq ?_
        by_cases c5 : x4 < (a1.W.length : Int)
        · rw [if_pos c5] at h
          refine .condT rfl (decide_eq_true c5) ?_
          refine .skip ?_
          refine .seq ?_
          refine .block ?_
          refine .seq ?_
          obtain ⟨g22_0, h⟩ := h
          refine .reg0 rfl (.op 0 rfl (ixR (l := a1.W) (lit := (cInt .i64)) sl29 rfl rfl (fun _ => rfl) g22_0.1 g22_0.2) <| .op 0 rfl (ldC rfl sz3 ag3 rfl) <| .op 0 rfl (asV rfl) <| .nil0) ?_
          refine .seq ?_
          obtain ⟨t23_7, g23_7, h⟩ := h
          obtain ⟨g23_10, h⟩ := h
          refine .room 0 ?_
          refine .room 0 ?_
          refine .reg1 (e1 := listEnv [(2, .ptr 0 1 6 0 0), (4, .ptr 1 1 7 0 0), (7, .ptr 2 1 7 0 0), (31, .rows (a1.W.map (cInt .i64))), (32, .val (.int .i64 (a1.W.length : Int))), (33, .val (.int .i64 x4))]) (H1 := [⟨6, [(TPds.lit a0)], 0, none⟩, ⟨7, [[.val (.int .i64 0), .val (.int .i64 0), .val (.slice none 0 0), .val (.int .i64 0), .val (.int .i64 0), .val (.slice none 0 0), .val (.slice none 0 0)]], 0, none⟩, ⟨7, [[.val (.int .i64 t6_1.Space.Tag), .val (.int .i64 t6_1.Space.Dim), .rows (t6_1.Space.Parts.map TSpace.cells), .val (.int .i64 x1), .val (.int .i64 t6_1.Symbols), .rows (t6_1.Final.map (cInt .i64)), .own 3 ((x2 ++ [(TTrans.mk x3 (rdl a1.W x4) x1 t23_7)]).length)]], 0, none⟩, ⟨9, (x2 ++ [(TTrans.mk x3 (rdl a1.W x4) x1 t23_7)]).map TTrans.cells, 0, none⟩, ⟨9, [(TTrans.mk x3 (rdl a1.W x4) x1 t23_7)].map TTrans.cells, 0, none⟩, Blk.hole]) rfl ?_ ?_
          · exact .drawM [(11, 48, .ptr 2 1 7 0 6), (10, 47, .own 3 ((x2 ++ [(TTrans.mk x3 (rdl a1.W x4) x1 t23_7)]).length)), (9, 46, .own 4 ([(TTrans.mk x3 (rdl a1.W x4) x1 t23_7)].length)), (8, 45, .agg [.val (.int .i64 x3), .val (.int .i64 (rdl a1.W x4)), .val (.int .i64 x1), .val (.bool t23_7.Zero), .val (.int .i64 t23_7.Cost), .val (.int .u64 t23_7.Facts.Gen), .rows (t23_7.Facts.Rows.map (cInt .u64)), .rows (t23_7.Cells.map TCell.cells), .rows (t23_7.Parts.map TWeight.cells)]), (7, 44, .agg (TWeight.lit t23_7)), (6, 43, .agg (TPds.lit a0)), (5, 42, .val (.int .i64 x1)), (4, 41, .ptr 2 1 7 0 3), (3, 40, .val (.int .i64 (rdl a1.W x4))), (2, 39, .val (.int .i64 x3)), (1, 38, .own 3 x2.length), (0, 37, .ptr 2 1 7 0 6)] [(12, 2, ⟨7, [[.val (.int .i64 t6_1.Space.Tag), .val (.int .i64 t6_1.Space.Dim), .rows (t6_1.Space.Parts.map TSpace.cells), .val (.int .i64 x1), .val (.int .i64 t6_1.Symbols), .rows (t6_1.Final.map (cInt .i64)), .own 3 ((x2 ++ [(TTrans.mk x3 (rdl a1.W x4) x1 t23_7)]).length)]], 0, none⟩), (10, 3, ⟨9, (x2 ++ [(TTrans.mk x3 (rdl a1.W x4) x1 t23_7)]).map TTrans.cells, 0, none⟩), (9, 4, ⟨9, [(TTrans.mk x3 (rdl a1.W x4) x1 t23_7)].map TTrans.cells, 0, none⟩)] [[], [0], [], [], [], [4], [], [6], [2, 3, 5, 4, 7, 6], [8, 2, 3, 5, 4, 7, 6], [1, 0, 9, 8, 2, 3, 5, 4, 7, 6], [0, 1, 2, 3, 4, 5, 6, 7, 8, 9, 10], [11, 0, 1, 2, 3, 4, 5, 6, 7, 8, 9, 10]] (by rfl) (by rfl) (by rfl) (by exact ⟨fun S hS hD hn => .one 0 hS hD hn rfl rfl (faP fa35_4 rfl) rfl rfl rfl, fun S hS hD hn => .one 0 hS hD hn rfl rfl (ldP rfl sz33 ag33 rfl) rfl rfl rfl, fun S hS hD hn => .one 0 hS hD hn rfl rfl (mvV rfl) rfl rfl rfl, fun S hS hD hn => .one 0 hS hD hn rfl rfl (mvV rfl) rfl rfl rfl, fun S hS hD hn => .one 0 hS hD hn rfl rfl (faP fa35_1 rfl) rfl rfl rfl, fun S hS hD hn => .one 0 hS hD hn rfl rfl (ldP rfl sz3 ag3 rfl) rfl rfl rfl, fun S hS hD hn => .one 0 hS hD hn rfl rfl (ldG rfl sz28 ag28 rfl) rfl rfl rfl, fun S hS hD hn => .oneI hS hD hn rfl rfl (callee_of rfl go20 rfl) (.pure rfl rfl (query_one.D g23_7)) rfl rfl rfl, fun S hS hD hn => .one 0 hS hD hn rfl rfl (bldS (cs := [.val (.int .i64 x3), .val (.int .i64 (rdl a1.W x4)), .val (.int .i64 x1), .val (.bool t23_7.Zero), .val (.int .i64 t23_7.Cost), .val (.int .u64 t23_7.Facts.Gen), .rows (t23_7.Facts.Rows.map (cInt .u64)), .rows (t23_7.Cells.map TCell.cells), .rows (t23_7.Parts.map TWeight.cells)]) ze59 pl59 rfl rfl) rfl rfl rfl, fun S hS hD hn => .one 4 hS hD hn rfl rfl (bldL (s := 9) (cs := [.val (.int .i64 x3), .val (.int .i64 (rdl a1.W x4)), .val (.int .i64 x1), .val (.bool t23_7.Zero), .val (.int .i64 t23_7.Cost), .val (.int .u64 t23_7.Facts.Gen), .rows (t23_7.Facts.Rows.map (cInt .u64)), .rows (t23_7.Cells.map TCell.cells), .rows (t23_7.Parts.map TWeight.cells)]) un33 sz59 ze59 ⟨by decide, rfl, by decide⟩ rfl rfl rfl rfl) rfl rfl rfl, fun S hS hD hn => .one 0 hS hD hn rfl rfl (ap1 (l := x2) (TTrans.mk x3 (rdl a1.W x4) x1 t23_7) sl33 rfl rfl rfl (Nat.zero_le _) (elems_own (l := [(TTrans.mk x3 (rdl a1.W x4) x1 t23_7)]) rfl rfl) g23_10) rfl rfl rfl, fun S hS hD hn => .one 0 hS hD hn rfl rfl (faP fa35_4 rfl) rfl rfl rfl, fun S hS hD hn => .one0 0 rfl rfl (stB (cs0 := [.val (.int .i64 t6_1.Space.Tag), .val (.int .i64 t6_1.Space.Dim), .rows (t6_1.Space.Parts.map TSpace.cells), .val (.int .i64 x1), .val (.int .i64 t6_1.Symbols), .rows (t6_1.Final.map (cInt .i64)), .own 3 x2.length]) (cs := [.own 3 ((x2 ++ [(TTrans.mk x3 (rdl a1.W x4) x1 t23_7)]).length)]) (cs1 := [.val (.int .i64 t6_1.Space.Tag), .val (.int .i64 t6_1.Space.Dim), .rows (t6_1.Space.Parts.map TSpace.cells), .val (.int .i64 x1), .val (.int .i64 t6_1.Symbols), .rows (t6_1.Final.map (cInt .i64)), .own 3 ((x2 ++ [(TTrans.mk x3 (rdl a1.W x4) x1 t23_7)]).length)]) rfl rfl sz33 rfl ⟨Nat.le_of_ble_eq_true rfl, rfl⟩ rfl) (drawE_other _ _ _ _ rfl) rfl, trivial⟩) _ (by exact ⟨.ptr rfl, .ptr rfl, .ptr rfl, .free rfl rfl, .free rfl rfl, .free rfl rfl, trivial⟩) (by rfl)
          refine .seq ?_
          refine .reg0 rfl (.op 0 rfl (faP fa35_1 rfl) <| .op 0 rfl (ldP rfl sz3 ag3 rfl) <| .op 0 rfl (asV rfl) <| .nil0) ?_
          refine .reg0 rfl (.op 0 rfl (faP fa35_1 rfl) <| .op 0 rfl (ldP rfl sz3 ag3 rfl) <| .op 0 rfl (addI rfl rfl) <| .op 0 rfl (faP fa35_1 rfl) <| .op 0 rfl (stB (cs0 := [.val (.int .i64 t6_1.Space.Tag), .val (.int .i64 t6_1.Space.Dim), .rows (t6_1.Space.Parts.map TSpace.cells), .val (.int .i64 x1), .val (.int .i64 t6_1.Symbols), .rows (t6_1.Final.map (cInt .i64)), .own 3 ((x2 ++ [(TTrans.mk x3 (rdl a1.W x4) x1 t23_7)]).length)]) (cs := [.val (.int .i64 (IntKind.i64.wrap (x1 + 1)))]) (cs1 := [.val (.int .i64 t6_1.Space.Tag), .val (.int .i64 t6_1.Space.Dim), .rows (t6_1.Space.Parts.map TSpace.cells), .val (.int .i64 (IntKind.i64.wrap (x1 + 1))), .val (.int .i64 t6_1.Symbols), .rows (t6_1.Final.map (cInt .i64)), .own 3 ((x2 ++ [(TTrans.mk x3 (rdl a1.W x4) x1 t23_7)]).length)]) rfl rfl sz3 rfl ⟨Nat.le_of_ble_eq_true rfl, rfl⟩ rfl) <| .nil0) ?_
          refine .inBlock ?_
          refine .reg0 rfl (.op 0 rfl (addI rfl rfl) <| .op 0 rfl (mvV rfl) <| .nil0) ?_
          refine .keepL [0, 1, 2, 3] [(2, .ptr 0 1 6 0 0), (4, .ptr 1 1 7 0 0), (7, .ptr 2 1 7 0 0), (8, .val (.int .i64 x1)), (31, .rows (a1.W.map (cInt .i64))), (32, .val (.int .i64 (a1.W.length : Int))), (33, .val (.int .i64 (IntKind.i64.wrap (x4 + 1))))] [⟨6, [(TPds.lit a0)], 0, none⟩, ⟨7, [[.val (.int .i64 0), .val (.int .i64 0), .val (.slice none 0 0), .val (.int .i64 0), .val (.int .i64 0), .val (.slice none 0 0), .val (.slice none 0 0)]], 0, none⟩, ⟨7, [[.val (.int .i64 t6_1.Space.Tag), .val (.int .i64 t6_1.Space.Dim), .rows (t6_1.Space.Parts.map TSpace.cells), .val (.int .i64 (IntKind.i64.wrap (x1 + 1))), .val (.int .i64 t6_1.Symbols), .rows (t6_1.Final.map (cInt .i64)), .own 3 ((x2 ++ [(TTrans.mk x3 (rdl a1.W x4) x1 t23_7)]).length)]], 0, none⟩, ⟨9, (x2 ++ [(TTrans.mk x3 (rdl a1.W x4) x1 t23_7)]).map TTrans.cells, 0, none⟩] (by decide) (by decide) ⟨.ptr rfl, .ptr rfl, .ptr rfl, .free rfl rfl, .free rfl rfl, .free rfl rfl, .free rfl rfl, trivial⟩ ⟨⟨_, rfl, bcBox (all2_free rfl)⟩, ⟨_, rfl, bcBox (all2_free rfl)⟩, ⟨_, rfl, bcBox (.cons (.free rfl rfl) <| .cons (.free rfl rfl) <| .cons (.free rfl rfl) <| .cons (.free rfl rfl) <| .cons (.free rfl rfl) <| .cons (.free rfl rfl) <| .cons (.own rfl) <| .nil)⟩, ⟨_, rfl, bcRow (l := (x2 ++ [(TTrans.mk x3 (rdl a1.W x4) x1 t23_7)])) sl33 (Nat.le_refl _) rfl⟩, trivial⟩ ?_
          exact hn1 _ h
        · rw [if_neg c5] at h
          refine .condF rfl (decide_eq_false c5) ?_
          refine .exit rfl ?_
          refine .keepL [1, 2, 3] [(4, .ptr 0 1 7 0 0), (7, .ptr 1 1 7 0 0), (8, .val (.int .i64 x3))] [⟨7, [[.val (.int .i64 0), .val (.int .i64 0), .val (.slice none 0 0), .val (.int .i64 0), .val (.int .i64 0), .val (.slice none 0 0), .val (.slice none 0 0)]], 0, none⟩, ⟨7, [[.val (.int .i64 t6_1.Space.Tag), .val (.int .i64 t6_1.Space.Dim), .rows (t6_1.Space.Parts.map TSpace.cells), .val (.int .i64 x1), .val (.int .i64 t6_1.Symbols), .rows (t6_1.Final.map (cInt .i64)), .own 2 x2.length]], 0, none⟩, ⟨9, x2.map TTrans.cells, 0, none⟩] (by decide) (by decide) ⟨.ptr rfl, .ptr rfl, .free rfl rfl, trivial⟩ ⟨⟨_, rfl, bcBox (all2_free rfl)⟩, ⟨_, rfl, bcBox (.cons (.free rfl rfl) <| .cons (.free rfl rfl) <| .cons (.free rfl rfl) <| .cons (.free rfl rfl) <| .cons (.free rfl rfl) <| .cons (.free rfl rfl) <| .cons (.own rfl) <| .nil)⟩, ⟨_, rfl, bcRow (l := x2) sl33 (Nat.le_refl _) rfl⟩, trivial⟩ ?_
          exact hx1 _ h
  · rw [if_neg c1] at h
    refine .condT rfl (bne_iff_ne.mpr c1) ?_
    refine .seq ?_
    refine .reg0 rfl (.op 0 rfl (bldS (cs := [.val (.int .i64 0), .val (.int .i64 0), .val (.slice none 0 0), .val (.int .i64 0), .val (.int .i64 0), .val (.slice none 0 0), .val (.slice none 0 0)]) ze35 pl35 rfl rfl) <| .op 0 rfl (mvV rfl) <| .op 0 rfl (stB (cs0 := [.val (.int .i64 0), .val (.int .i64 0), .val (.slice none 0 0), .val (.int .i64 0), .val (.int .i64 0), .val (.slice none 0 0), .val (.slice none 0 0)]) (cs := [.val (.int .i64 0), .val (.int .i64 0), .val (.slice none 0 0), .val (.int .i64 0), .val (.int .i64 0), .val (.slice none 0 0), .val (.slice none 0 0)]) (cs1 := [.val (.int .i64 0), .val (.int .i64 0), .val (.slice none 0 0), .val (.int .i64 0), .val (.int .i64 0), .val (.slice none 0 0), .val (.slice none 0 0)]) rfl rfl sz35 rfl ⟨Nat.le_of_ble_eq_true rfl, rfl⟩ rfl) <| .op 0 rfl (asV rfl) <| .nil0) ?_
    replace h := h.symm
    subst h
    refine .keepL [] [(4, .cptr [.val (.int .i64 0), .val (.int .i64 0), .rows (([] : List TSpace).map TSpace.cells), .val (.int .i64 0), .val (.int .i64 0), .rows (([] : List Int).map (cInt .i64)), .rows (([] : List TTrans).map TTrans.cells)] 0), (5, .val (.int .i64 t2_2))] [] (by decide) (by decide) ⟨cFixP rfl rfl (.cons (.free rfl rfl) <| .cons (.free rfl rfl) <| .cons (.nil) <| .cons (.free rfl rfl) <| .cons (.free rfl rfl) <| .cons (.nil) <| .cons (.nil) <| .nil), .free rfl rfl, trivial⟩ trivial ?_
    exact .ret rfl
def l14_awake.f (r : Bool) : Prop :=
  ∃ t2_0 : TPds, (l12_Example.f t2_0) ∧ ∃ t2_3 : TAuto × Int, (query_One.f t2_0 (TConf.mk 1 [0, 2]) t2_3) ∧ ((t2_3.2 = 0) → (t2_3.1.States = 4) → ((t2_3.1.Trans.length : Int) = 2) → (InR 1 t2_3.1.Trans.length)) ∧ ((t2_3.2 = 0) → (t2_3.1.States = 4) → ((t2_3.1.Trans.length : Int) = 2) → ((rdl t2_3.1.Trans 1).Sym = 2) → (InR 1 t2_3.1.Trans.length)) ∧ ((t2_3.2 = 0) → (t2_3.1.States = 4) → ((t2_3.1.Trans.length : Int) = 2) → ((rdl t2_3.1.Trans 1).Sym = 2) → ((rdl t2_3.1.Trans 1).From = 2) → ((t2_3.1.Final.length : Int) = 1) → (InR 0 t2_3.1.Final.length)) ∧ r = ((t2_3.2 == 0) && ((t2_3.1.States == 4) && (((t2_3.1.Trans.length : Int) == 2) && (((rdl t2_3.1.Trans 1).Sym == 2) && (((rdl t2_3.1.Trans 1).From == 2) && (((t2_3.1.Final.length : Int) == 1) && ((rdl t2_3.1.Final 0) == 3)))))))
theorem l14_awake.D {r : Bool} (h : l14_awake.f r) : D Try.prog X (.callH 5 [] [] (.val (.bool r)) []) := by
  unfold l14_awake.f at h
  refine .enter 52 0 fn5 rfl rfl rfl ?_
  refine .seq ?_
  refine .reg0 rfl (.op 0 rfl (asV rfl) <| .nil0) ?_
  refine .seq ?_
  obtain ⟨t2_0, g2_0, h⟩ := h
  obtain ⟨t2_3, g2_3, h⟩ := h
  refine .room 0 ?_
  refine .room 0 ?_
  refine .reg0 rfl (.callI rfl (callee_of rfl go17 rfl) (.pure rfl rfl (l12_Example.D g2_0)) <| .op 0 rfl (bldL (s := 1) (cs := [.val (.int .i64 0), .val (.int .i64 2)]) un29 sz3 ze3 ⟨by decide, rfl, by decide⟩ rfl rfl rfl rfl) <| .op 0 rfl (bldS (cs := [.val (.int .i64 1), .own 0 ([0, 2].length)]) ze31 pl31 rfl rfl) <| .callI rfl (callee_of rfl go6 rfl) (.lendC (args' := [.agg (TPds.lit t2_0), .agg [.val (.int .i64 1), .rows ([0, 2].map (cInt .i64))]])  [0] true (.cons (.free rfl rfl) <| .cons (cAgg (.cons (.free rfl rfl) <| .cons (cFixO (l := [0, 2]) sl29 rfl rfl rfl rfl) <| .nil)) <| .nil) (by decide) rfl rfl rfl rfl (query_One.D g2_3)) <| .op 0 rfl (mvT rfl) <| .op 0 rfl (exT rfl rfl) <| .op 0 rfl (exT rfl rfl) <| .op 1 rfl (alP (s := 7) ze35 ⟨rfl, by decide, rfl⟩ rfl) <| .op 0 rfl (stB (cs0 := [.val (.int .i64 0), .val (.int .i64 0), .val (.slice none 0 0), .val (.int .i64 0), .val (.int .i64 0), .val (.slice none 0 0), .val (.slice none 0 0)]) (cs := (TAuto.lit t2_3.1)) (cs1 := (TAuto.lit t2_3.1)) rfl rfl sz35 rfl ⟨Nat.le_of_ble_eq_true rfl, rfl⟩ rfl) <| .op 0 rfl (asV rfl) <| .nil0) ?_
  refine .seq ?_
  obtain ⟨g3_16, h⟩ := h
  obtain ⟨g3_24, h⟩ := h
  obtain ⟨g3_38, h⟩ := h
  refine .reg0 (e1 := listEnv [(0, .val (.bool ((t2_3.2 == 0) && ((t2_3.1.States == 4) && (((t2_3.1.Trans.length : Int) == 2) && (((rdl t2_3.1.Trans 1).Sym == 2) && (((rdl t2_3.1.Trans 1).From == 2) && (((t2_3.1.Final.length : Int) == 1) && ((rdl t2_3.1.Final 0) == 3)))))))))]) (H1 := [⟨1, [0, 2].map (cInt .i64), (max 0 ([0, 2].map (cInt .i64) : List (List PV)).length), none⟩, ⟨7, [(TAuto.lit t2_3.1)], 0, none⟩]) rfl ?_ ?_
  · by_cases c1 : t2_3.2 = 0
    · by_cases c2 : t2_3.1.States = 4
      · by_cases c3 : (t2_3.1.Trans.length : Int) = 2
        · by_cases c4 : (rdl t2_3.1.Trans 1).Sym = 2
          · by_cases c5 : (rdl t2_3.1.Trans 1).From = 2
            · by_cases c6 : (t2_3.1.Final.length : Int) = 1
              · exact (.op 0 rfl (mvV rfl) <| .op 0 rfl (eqI rfl rfl) <| .op 0 rfl (mvV rfl) <| .op 0 (gT rfl rfl rfl (beq_iff_eq.mpr c1)) (faP fa35_1 rfl) <| .op 0 (gT rfl rfl rfl (beq_iff_eq.mpr c1)) (ldP rfl sz3 ag3 rfl) <| .op 0 (gT rfl rfl rfl (beq_iff_eq.mpr c1)) (eqI rfl rfl) <| .op 0 rfl (pkTV rfl (beq_iff_eq.mpr c1) rfl) <| .op 0 rfl (mvV rfl) <| .op 0 (gT rfl rfl rfl (beq_iff_eq.mpr c2)) (faP fa35_4 rfl) <| .op 0 (gT rfl rfl rfl (beq_iff_eq.mpr c2)) (ldP rfl sz33 ag33 rfl) <| .op 0 (gT rfl rfl rfl (beq_iff_eq.mpr c2)) (lnR (l := t2_3.1.Trans) sl33 rfl) <| .op 0 (gT rfl rfl rfl (beq_iff_eq.mpr c2)) (eqI rfl rfl) <| .op 0 rfl (pkTV rfl (beq_iff_eq.mpr c2) rfl) <| .op 0 rfl (mvV rfl) <| .op 0 (gT rfl rfl rfl (beq_iff_eq.mpr c3)) (faP fa35_4 rfl) <| .op 0 (gT rfl rfl rfl (beq_iff_eq.mpr c3)) (ldP rfl sz33 ag33 rfl) <| .op 0 (gT rfl rfl rfl (beq_iff_eq.mpr c3)) (ixR (l := t2_3.1.Trans) (lit := TTrans.lit) sl33 rfl rfl (fun _ => rfl) (g3_16 c1 c2 c3).1 (g3_16 c1 c2 c3).2) <| .op 0 (gT rfl rfl rfl (beq_iff_eq.mpr c3)) (faC fa59_1 rfl) <| .op 0 (gT rfl rfl rfl (beq_iff_eq.mpr c3)) (ldC rfl sz3 ag3 rfl) <| .op 0 (gT rfl rfl rfl (beq_iff_eq.mpr c3)) (eqI rfl rfl) <| .op 0 rfl (pkTV rfl (beq_iff_eq.mpr c3) rfl) <| .op 0 rfl (mvV rfl) <| .op 0 (gT rfl rfl rfl (beq_iff_eq.mpr c4)) (faP fa35_4 rfl) <| .op 0 (gT rfl rfl rfl (beq_iff_eq.mpr c4)) (ldP rfl sz33 ag33 rfl) <| .op 0 (gT rfl rfl rfl (beq_iff_eq.mpr c4)) (ixR (l := t2_3.1.Trans) (lit := TTrans.lit) sl33 rfl rfl (fun _ => rfl) (g3_24 c1 c2 c3 c4).1 (g3_24 c1 c2 c3 c4).2) <| .op 0 (gT rfl rfl rfl (beq_iff_eq.mpr c4)) (faC fa59_0 rfl) <| .op 0 (gT rfl rfl rfl (beq_iff_eq.mpr c4)) (ldC rfl sz3 ag3 rfl) <| .op 0 (gT rfl rfl rfl (beq_iff_eq.mpr c4)) (eqI rfl rfl) <| .op 0 rfl (pkTV rfl (beq_iff_eq.mpr c4) rfl) <| .op 0 rfl (mvV rfl) <| .op 0 (gT rfl rfl rfl (beq_iff_eq.mpr c5)) (faP fa35_3 rfl) <| .op 0 (gT rfl rfl rfl (beq_iff_eq.mpr c5)) (ldP rfl sz29 ag29 rfl) <| .op 0 (gT rfl rfl rfl (beq_iff_eq.mpr c5)) (lnR (l := t2_3.1.Final) sl29 rfl) <| .op 0 (gT rfl rfl rfl (beq_iff_eq.mpr c5)) (eqI rfl rfl) <| .op 0 rfl (pkTV rfl (beq_iff_eq.mpr c5) rfl) <| .op 0 rfl (mvV rfl) <| .op 0 (gT rfl rfl rfl (beq_iff_eq.mpr c6)) (faP fa35_3 rfl) <| .op 0 (gT rfl rfl rfl (beq_iff_eq.mpr c6)) (ldP rfl sz29 ag29 rfl) <| .op 0 (gT rfl rfl rfl (beq_iff_eq.mpr c6)) (ixR (l := t2_3.1.Final) (lit := (cInt .i64)) sl29 rfl rfl (fun _ => rfl) (g3_38 c1 c2 c3 c4 c5 c6).1 (g3_38 c1 c2 c3 c4 c5 c6).2) <| .op 0 (gT rfl rfl rfl (beq_iff_eq.mpr c6)) (ldC rfl sz3 ag3 rfl) <| .op 0 (gT rfl rfl rfl (beq_iff_eq.mpr c6)) (eqI rfl rfl) <| .op 0 rfl (pkTV rfl (beq_iff_eq.mpr c6) rfl) <| .op 0 rfl (asV rfl) <| .nilL _ ⟨cB rfl (mAndT (beq_iff_eq.mpr c1) (mAndT (beq_iff_eq.mpr c2) (mAndT (beq_iff_eq.mpr c3) (mAndT (beq_iff_eq.mpr c4) (mAndT (beq_iff_eq.mpr c5) (mAndT (beq_iff_eq.mpr c6) rfl)))))), trivial⟩)
              · exact (.op 0 rfl (mvV rfl) <| .op 0 rfl (eqI rfl rfl) <| .op 0 rfl (mvV rfl) <| .op 0 (gT rfl rfl rfl (beq_iff_eq.mpr c1)) (faP fa35_1 rfl) <| .op 0 (gT rfl rfl rfl (beq_iff_eq.mpr c1)) (ldP rfl sz3 ag3 rfl) <| .op 0 (gT rfl rfl rfl (beq_iff_eq.mpr c1)) (eqI rfl rfl) <| .op 0 rfl (pkTV rfl (beq_iff_eq.mpr c1) rfl) <| .op 0 rfl (mvV rfl) <| .op 0 (gT rfl rfl rfl (beq_iff_eq.mpr c2)) (faP fa35_4 rfl) <| .op 0 (gT rfl rfl rfl (beq_iff_eq.mpr c2)) (ldP rfl sz33 ag33 rfl) <| .op 0 (gT rfl rfl rfl (beq_iff_eq.mpr c2)) (lnR (l := t2_3.1.Trans) sl33 rfl) <| .op 0 (gT rfl rfl rfl (beq_iff_eq.mpr c2)) (eqI rfl rfl) <| .op 0 rfl (pkTV rfl (beq_iff_eq.mpr c2) rfl) <| .op 0 rfl (mvV rfl) <| .op 0 (gT rfl rfl rfl (beq_iff_eq.mpr c3)) (faP fa35_4 rfl) <| .op 0 (gT rfl rfl rfl (beq_iff_eq.mpr c3)) (ldP rfl sz33 ag33 rfl) <| .op 0 (gT rfl rfl rfl (beq_iff_eq.mpr c3)) (ixR (l := t2_3.1.Trans) (lit := TTrans.lit) sl33 rfl rfl (fun _ => rfl) (g3_16 c1 c2 c3).1 (g3_16 c1 c2 c3).2) <| .op 0 (gT rfl rfl rfl (beq_iff_eq.mpr c3)) (faC fa59_1 rfl) <| .op 0 (gT rfl rfl rfl (beq_iff_eq.mpr c3)) (ldC rfl sz3 ag3 rfl) <| .op 0 (gT rfl rfl rfl (beq_iff_eq.mpr c3)) (eqI rfl rfl) <| .op 0 rfl (pkTV rfl (beq_iff_eq.mpr c3) rfl) <| .op 0 rfl (mvV rfl) <| .op 0 (gT rfl rfl rfl (beq_iff_eq.mpr c4)) (faP fa35_4 rfl) <| .op 0 (gT rfl rfl rfl (beq_iff_eq.mpr c4)) (ldP rfl sz33 ag33 rfl) <| .op 0 (gT rfl rfl rfl (beq_iff_eq.mpr c4)) (ixR (l := t2_3.1.Trans) (lit := TTrans.lit) sl33 rfl rfl (fun _ => rfl) (g3_24 c1 c2 c3 c4).1 (g3_24 c1 c2 c3 c4).2) <| .op 0 (gT rfl rfl rfl (beq_iff_eq.mpr c4)) (faC fa59_0 rfl) <| .op 0 (gT rfl rfl rfl (beq_iff_eq.mpr c4)) (ldC rfl sz3 ag3 rfl) <| .op 0 (gT rfl rfl rfl (beq_iff_eq.mpr c4)) (eqI rfl rfl) <| .op 0 rfl (pkTV rfl (beq_iff_eq.mpr c4) rfl) <| .op 0 rfl (mvV rfl) <| .op 0 (gT rfl rfl rfl (beq_iff_eq.mpr c5)) (faP fa35_3 rfl) <| .op 0 (gT rfl rfl rfl (beq_iff_eq.mpr c5)) (ldP rfl sz29 ag29 rfl) <| .op 0 (gT rfl rfl rfl (beq_iff_eq.mpr c5)) (lnR (l := t2_3.1.Final) sl29 rfl) <| .op 0 (gT rfl rfl rfl (beq_iff_eq.mpr c5)) (eqI rfl rfl) <| .op 0 rfl (pkTV rfl (beq_iff_eq.mpr c5) rfl) <| .op 0 rfl (mvV rfl) <| .no (gF rfl rfl rfl (beq_eq_false_iff_ne.mpr c6)) <| .no (gF rfl rfl rfl (beq_eq_false_iff_ne.mpr c6)) <| .no (gF rfl rfl rfl (beq_eq_false_iff_ne.mpr c6)) <| .no (gF rfl rfl rfl (beq_eq_false_iff_ne.mpr c6)) <| .no (gF rfl rfl rfl (beq_eq_false_iff_ne.mpr c6)) <| .op 0 rfl (pkFV rfl (beq_eq_false_iff_ne.mpr c6) rfl) <| .op 0 rfl (asV rfl) <| .nilL _ ⟨cB rfl (mAndT (beq_iff_eq.mpr c1) (mAndT (beq_iff_eq.mpr c2) (mAndT (beq_iff_eq.mpr c3) (mAndT (beq_iff_eq.mpr c4) (mAndT (beq_iff_eq.mpr c5) (mAndF (beq_eq_false_iff_ne.mpr c6))))))), trivial⟩)
            · exact (.op 0 rfl (mvV rfl) <| .op 0 rfl (eqI rfl rfl) <| .op 0 rfl (mvV rfl) <| .op 0 (gT rfl rfl rfl (beq_iff_eq.mpr c1)) (faP fa35_1 rfl) <| .op 0 (gT rfl rfl rfl (beq_iff_eq.mpr c1)) (ldP rfl sz3 ag3 rfl) <| .op 0 (gT rfl rfl rfl (beq_iff_eq.mpr c1)) (eqI rfl rfl) <| .op 0 rfl (pkTV rfl (beq_iff_eq.mpr c1) rfl) <| .op 0 rfl (mvV rfl) <| .op 0 (gT rfl rfl rfl (beq_iff_eq.mpr c2)) (faP fa35_4 rfl) <| .op 0 (gT rfl rfl rfl (beq_iff_eq.mpr c2)) (ldP rfl sz33 ag33 rfl) <| .op 0 (gT rfl rfl rfl (beq_iff_eq.mpr c2)) (lnR (l := t2_3.1.Trans) sl33 rfl) <| .op 0 (gT rfl rfl rfl (beq_iff_eq.mpr c2)) (eqI rfl rfl) <| .op 0 rfl (pkTV rfl (beq_iff_eq.mpr c2) rfl) <| .op 0 rfl (mvV rfl) <| .op 0 (gT rfl rfl rfl (beq_iff_eq.mpr c3)) (faP fa35_4 rfl) <| .op 0 (gT rfl rfl rfl (beq_iff_eq.mpr c3)) (ldP rfl sz33 ag33 rfl) <| .op 0 (gT rfl rfl rfl (beq_iff_eq.mpr c3)) (ixR (l := t2_3.1.Trans) (lit := TTrans.lit) sl33 rfl rfl (fun _ => rfl) (g3_16 c1 c2 c3).1 (g3_16 c1 c2 c3).2) <| .op 0 (gT rfl rfl rfl (beq_iff_eq.mpr c3)) (faC fa59_1 rfl) <| .op 0 (gT rfl rfl rfl (beq_iff_eq.mpr c3)) (ldC rfl sz3 ag3 rfl) <| .op 0 (gT rfl rfl rfl (beq_iff_eq.mpr c3)) (eqI rfl rfl) <| .op 0 rfl (pkTV rfl (beq_iff_eq.mpr c3) rfl) <| .op 0 rfl (mvV rfl) <| .op 0 (gT rfl rfl rfl (beq_iff_eq.mpr c4)) (faP fa35_4 rfl) <| .op 0 (gT rfl rfl rfl (beq_iff_eq.mpr c4)) (ldP rfl sz33 ag33 rfl) <| .op 0 (gT rfl rfl rfl (beq_iff_eq.mpr c4)) (ixR (l := t2_3.1.Trans) (lit := TTrans.lit) sl33 rfl rfl (fun _ => rfl) (g3_24 c1 c2 c3 c4).1 (g3_24 c1 c2 c3 c4).2) <| .op 0 (gT rfl rfl rfl (beq_iff_eq.mpr c4)) (faC fa59_0 rfl) <| .op 0 (gT rfl rfl rfl (beq_iff_eq.mpr c4)) (ldC rfl sz3 ag3 rfl) <| .op 0 (gT rfl rfl rfl (beq_iff_eq.mpr c4)) (eqI rfl rfl) <| .op 0 rfl (pkTV rfl (beq_iff_eq.mpr c4) rfl) <| .op 0 rfl (mvV rfl) <| .no (gF rfl rfl rfl (beq_eq_false_iff_ne.mpr c5)) <| .no (gF rfl rfl rfl (beq_eq_false_iff_ne.mpr c5)) <| .no (gF rfl rfl rfl (beq_eq_false_iff_ne.mpr c5)) <| .no (gF rfl rfl rfl (beq_eq_false_iff_ne.mpr c5)) <| .op 0 rfl (pkFV rfl (beq_eq_false_iff_ne.mpr c5) rfl) <| .op 0 rfl (mvV rfl) <| .no (gF rfl rfl rfl rfl) <| .no (gF rfl rfl rfl rfl) <| .no (gF rfl rfl rfl rfl) <| .no (gF rfl rfl rfl rfl) <| .no (gF rfl rfl rfl rfl) <| .op 0 rfl (pkFV rfl rfl rfl) <| .op 0 rfl (asV rfl) <| .nilL _ ⟨cB rfl (mAndT (beq_iff_eq.mpr c1) (mAndT (beq_iff_eq.mpr c2) (mAndT (beq_iff_eq.mpr c3) (mAndT (beq_iff_eq.mpr c4) (mAndF (beq_eq_false_iff_ne.mpr c5)))))), trivial⟩)
          · exact (.op 0 rfl (mvV rfl) <| .op 0 rfl (eqI rfl rfl) <| .op 0 rfl (mvV rfl) <| .op 0 (gT rfl rfl rfl (beq_iff_eq.mpr c1)) (faP fa35_1 rfl) <| .op 0 (gT rfl rfl rfl (beq_iff_eq.mpr c1)) (ldP rfl sz3 ag3 rfl) <| .op 0 (gT rfl rfl rfl (beq_iff_eq.mpr c1)) (eqI rfl rfl) <| .op 0 rfl (pkTV rfl (beq_iff_eq.mpr c1) rfl) <| .op 0 rfl (mvV rfl) <| .op 0 (gT rfl rfl rfl (beq_iff_eq.mpr c2)) (faP fa35_4 rfl) <| .op 0 (gT rfl rfl rfl (beq_iff_eq.mpr c2)) (ldP rfl sz33 ag33 rfl) <| .op 0 (gT rfl rfl rfl (beq_iff_eq.mpr c2)) (lnR (l := t2_3.1.Trans) sl33 rfl) <| .op 0 (gT rfl rfl rfl (beq_iff_eq.mpr c2)) (eqI rfl rfl) <| .op 0 rfl (pkTV rfl (beq_iff_eq.mpr c2) rfl) <| .op 0 rfl (mvV rfl) <| .op 0 (gT rfl rfl rfl (beq_iff_eq.mpr c3)) (faP fa35_4 rfl) <| .op 0 (gT rfl rfl rfl (beq_iff_eq.mpr c3)) (ldP rfl sz33 ag33 rfl) <| .op 0 (gT rfl rfl rfl (beq_iff_eq.mpr c3)) (ixR (l := t2_3.1.Trans) (lit := TTrans.lit) sl33 rfl rfl (fun _ => rfl) (g3_16 c1 c2 c3).1 (g3_16 c1 c2 c3).2) <| .op 0 (gT rfl rfl rfl (beq_iff_eq.mpr c3)) (faC fa59_1 rfl) <| .op 0 (gT rfl rfl rfl (beq_iff_eq.mpr c3)) (ldC rfl sz3 ag3 rfl) <| .op 0 (gT rfl rfl rfl (beq_iff_eq.mpr c3)) (eqI rfl rfl) <| .op 0 rfl (pkTV rfl (beq_iff_eq.mpr c3) rfl) <| .op 0 rfl (mvV rfl) <| .no (gF rfl rfl rfl (beq_eq_false_iff_ne.mpr c4)) <| .no (gF rfl rfl rfl (beq_eq_false_iff_ne.mpr c4)) <| .no (gF rfl rfl rfl (beq_eq_false_iff_ne.mpr c4)) <| .no (gF rfl rfl rfl (beq_eq_false_iff_ne.mpr c4)) <| .no (gF rfl rfl rfl (beq_eq_false_iff_ne.mpr c4)) <| .no (gF rfl rfl rfl (beq_eq_false_iff_ne.mpr c4)) <| .op 0 rfl (pkFV rfl (beq_eq_false_iff_ne.mpr c4) rfl) <| .op 0 rfl (mvV rfl) <| .no (gF rfl rfl rfl rfl) <| .no (gF rfl rfl rfl rfl) <| .no (gF rfl rfl rfl rfl) <| .no (gF rfl rfl rfl rfl) <| .op 0 rfl (pkFV rfl rfl rfl) <| .op 0 rfl (mvV rfl) <| .no (gF rfl rfl rfl rfl) <| .no (gF rfl rfl rfl rfl) <| .no (gF rfl rfl rfl rfl) <| .no (gF rfl rfl rfl rfl) <| .no (gF rfl rfl rfl rfl) <| .op 0 rfl (pkFV rfl rfl rfl) <| .op 0 rfl (asV rfl) <| .nilL _ ⟨cB rfl (mAndT (beq_iff_eq.mpr c1) (mAndT (beq_iff_eq.mpr c2) (mAndT (beq_iff_eq.mpr c3) (mAndF (beq_eq_false_iff_ne.mpr c4))))), trivial⟩)
        · exact (.op 0 rfl (mvV rfl) <| .op 0 rfl (eqI rfl rfl) <| .op 0 rfl (mvV rfl) <| .op 0 (gT rfl rfl rfl (beq_iff_eq.mpr c1)) (faP fa35_1 rfl) <| .op 0 (gT rfl rfl rfl (beq_iff_eq.mpr c1)) (ldP rfl sz3 ag3 rfl) <| .op 0 (gT rfl rfl rfl (beq_iff_eq.mpr c1)) (eqI rfl rfl) <| .op 0 rfl (pkTV rfl (beq_iff_eq.mpr c1) rfl) <| .op 0 rfl (mvV rfl) <| .op 0 (gT rfl rfl rfl (beq_iff_eq.mpr c2)) (faP fa35_4 rfl) <| .op 0 (gT rfl rfl rfl (beq_iff_eq.mpr c2)) (ldP rfl sz33 ag33 rfl) <| .op 0 (gT rfl rfl rfl (beq_iff_eq.mpr c2)) (lnR (l := t2_3.1.Trans) sl33 rfl) <| .op 0 (gT rfl rfl rfl (beq_iff_eq.mpr c2)) (eqI rfl rfl) <| .op 0 rfl (pkTV rfl (beq_iff_eq.mpr c2) rfl) <| .op 0 rfl (mvV rfl) <| .no (gF rfl rfl rfl (beq_eq_false_iff_ne.mpr c3)) <| .no (gF rfl rfl rfl (beq_eq_false_iff_ne.mpr c3)) <| .no (gF rfl rfl rfl (beq_eq_false_iff_ne.mpr c3)) <| .no (gF rfl rfl rfl (beq_eq_false_iff_ne.mpr c3)) <| .no (gF rfl rfl rfl (beq_eq_false_iff_ne.mpr c3)) <| .no (gF rfl rfl rfl (beq_eq_false_iff_ne.mpr c3)) <| .op 0 rfl (pkFV rfl (beq_eq_false_iff_ne.mpr c3) rfl) <| .op 0 rfl (mvV rfl) <| .no (gF rfl rfl rfl rfl) <| .no (gF rfl rfl rfl rfl) <| .no (gF rfl rfl rfl rfl) <| .no (gF rfl rfl rfl rfl) <| .no (gF rfl rfl rfl rfl) <| .no (gF rfl rfl rfl rfl) <| .op 0 rfl (pkFV rfl rfl rfl) <| .op 0 rfl (mvV rfl) <| .no (gF rfl rfl rfl rfl) <| .no (gF rfl rfl rfl rfl) <| .no (gF rfl rfl rfl rfl) <| .no (gF rfl rfl rfl rfl) <| .op 0 rfl (pkFV rfl rfl rfl) <| .op 0 rfl (mvV rfl) <| .no (gF rfl rfl rfl rfl) <| .no (gF rfl rfl rfl rfl) <| .no (gF rfl rfl rfl rfl) <| .no (gF rfl rfl rfl rfl) <| .no (gF rfl rfl rfl rfl) <| .op 0 rfl (pkFV rfl rfl rfl) <| .op 0 rfl (asV rfl) <| .nilL _ ⟨cB rfl (mAndT (beq_iff_eq.mpr c1) (mAndT (beq_iff_eq.mpr c2) (mAndF (beq_eq_false_iff_ne.mpr c3)))), trivial⟩)
      · exact (.op 0 rfl (mvV rfl) <| .op 0 rfl (eqI rfl rfl) <| .op 0 rfl (mvV rfl) <| .op 0 (gT rfl rfl rfl (beq_iff_eq.mpr c1)) (faP fa35_1 rfl) <| .op 0 (gT rfl rfl rfl (beq_iff_eq.mpr c1)) (ldP rfl sz3 ag3 rfl) <| .op 0 (gT rfl rfl rfl (beq_iff_eq.mpr c1)) (eqI rfl rfl) <| .op 0 rfl (pkTV rfl (beq_iff_eq.mpr c1) rfl) <| .op 0 rfl (mvV rfl) <| .no (gF rfl rfl rfl (beq_eq_false_iff_ne.mpr c2)) <| .no (gF rfl rfl rfl (beq_eq_false_iff_ne.mpr c2)) <| .no (gF rfl rfl rfl (beq_eq_false_iff_ne.mpr c2)) <| .no (gF rfl rfl rfl (beq_eq_false_iff_ne.mpr c2)) <| .op 0 rfl (pkFV rfl (beq_eq_false_iff_ne.mpr c2) rfl) <| .op 0 rfl (mvV rfl) <| .no (gF rfl rfl rfl rfl) <| .no (gF rfl rfl rfl rfl) <| .no (gF rfl rfl rfl rfl) <| .no (gF rfl rfl rfl rfl) <| .no (gF rfl rfl rfl rfl) <| .no (gF rfl rfl rfl rfl) <| .op 0 rfl (pkFV rfl rfl rfl) <| .op 0 rfl (mvV rfl) <| .no (gF rfl rfl rfl rfl) <| .no (gF rfl rfl rfl rfl) <| .no (gF rfl rfl rfl rfl) <| .no (gF rfl rfl rfl rfl) <| .no (gF rfl rfl rfl rfl) <| .no (gF rfl rfl rfl rfl) <| .op 0 rfl (pkFV rfl rfl rfl) <| .op 0 rfl (mvV rfl) <| .no (gF rfl rfl rfl rfl) <| .no (gF rfl rfl rfl rfl) <| .no (gF rfl rfl rfl rfl) <| .no (gF rfl rfl rfl rfl) <| .op 0 rfl (pkFV rfl rfl rfl) <| .op 0 rfl (mvV rfl) <| .no (gF rfl rfl rfl rfl) <| .no (gF rfl rfl rfl rfl) <| .no (gF rfl rfl rfl rfl) <| .no (gF rfl rfl rfl rfl) <| .no (gF rfl rfl rfl rfl) <| .op 0 rfl (pkFV rfl rfl rfl) <| .op 0 rfl (asV rfl) <| .nilL _ ⟨cB rfl (mAndT (beq_iff_eq.mpr c1) (mAndF (beq_eq_false_iff_ne.mpr c2))), trivial⟩)
    · exact (.op 0 rfl (mvV rfl) <| .op 0 rfl (eqI rfl rfl) <| .op 0 rfl (mvV rfl) <| .no (gF rfl rfl rfl (beq_eq_false_iff_ne.mpr c1)) <| .no (gF rfl rfl rfl (beq_eq_false_iff_ne.mpr c1)) <| .no (gF rfl rfl rfl (beq_eq_false_iff_ne.mpr c1)) <| .op 0 rfl (pkFV rfl (beq_eq_false_iff_ne.mpr c1) rfl) <| .op 0 rfl (mvV rfl) <| .no (gF rfl rfl rfl rfl) <| .no (gF rfl rfl rfl rfl) <| .no (gF rfl rfl rfl rfl) <| .no (gF rfl rfl rfl rfl) <| .op 0 rfl (pkFV rfl rfl rfl) <| .op 0 rfl (mvV rfl) <| .no (gF rfl rfl rfl rfl) <| .no (gF rfl rfl rfl rfl) <| .no (gF rfl rfl rfl rfl) <| .no (gF rfl rfl rfl rfl) <| .no (gF rfl rfl rfl rfl) <| .no (gF rfl rfl rfl rfl) <| .op 0 rfl (pkFV rfl rfl rfl) <| .op 0 rfl (mvV rfl) <| .no (gF rfl rfl rfl rfl) <| .no (gF rfl rfl rfl rfl) <| .no (gF rfl rfl rfl rfl) <| .no (gF rfl rfl rfl rfl) <| .no (gF rfl rfl rfl rfl) <| .no (gF rfl rfl rfl rfl) <| .op 0 rfl (pkFV rfl rfl rfl) <| .op 0 rfl (mvV rfl) <| .no (gF rfl rfl rfl rfl) <| .no (gF rfl rfl rfl rfl) <| .no (gF rfl rfl rfl rfl) <| .no (gF rfl rfl rfl rfl) <| .op 0 rfl (pkFV rfl rfl rfl) <| .op 0 rfl (mvV rfl) <| .no (gF rfl rfl rfl rfl) <| .no (gF rfl rfl rfl rfl) <| .no (gF rfl rfl rfl rfl) <| .no (gF rfl rfl rfl rfl) <| .no (gF rfl rfl rfl rfl) <| .op 0 rfl (pkFV rfl rfl rfl) <| .op 0 rfl (asV rfl) <| .nilL _ ⟨cB rfl (mAndF (beq_eq_false_iff_ne.mpr c1)), trivial⟩)
  replace h := h.symm
  subst h
  refine .keepL [] [(0, .val (.bool ((t2_3.2 == 0) && ((t2_3.1.States == 4) && (((t2_3.1.Trans.length : Int) == 2) && (((rdl t2_3.1.Trans 1).Sym == 2) && (((rdl t2_3.1.Trans 1).From == 2) && (((t2_3.1.Final.length : Int) == 1) && ((rdl t2_3.1.Final 0) == 3)))))))))] [] (by decide) (by decide) ⟨.free rfl rfl, trivial⟩ trivial ?_
  exact .ret rfl
def r05_Space.b1 (self36 : TSpace → Int → Prop) (a0 : TSpace) : (Bool × Int) → Rnd ((Bool × Int)) Bool Int → Prop := fun (x2, x3) z1 => if ((decide (x3 < (a0.Parts.length : Int))) && x2) = true then (((InR x3 a0.Parts.length)) ∧ (¬ ((rdl a0.Parts x3).Tag = 5) → (InR x3 a0.Parts.length)) ∧ ∃ t30_13 : Int, (¬ ((rdl a0.Parts x3).Tag = 5) → self36 (rdl a0.Parts x3) t30_13) ∧ z1 = .next (((!((rdl a0.Parts x3).Tag == 5)) && (t30_13 == 0)), (IntKind.i64.wrap (x3 + 1)))) else (z1 = .exit x2)
def r05_Space.j1 (self36 : TSpace → Int → Prop) (a0 : TSpace) : Bool → Int → Prop := fun x1 r => if x1 = true then (if ((decide (a0.Dim ≥ 0)) && ((decide (a0.Dim ≤ 64)) && ((a0.Parts.length : Int) == 0))) = true then (r = 0) else (r = 50)) else (if a0.Tag = 5 then (∃ o1 : Fin Bool Int, Loop (r05_Space.b1 self36 a0) (((a0.Dim == 0) && ((a0.Parts.length : Int) == 2)), 0) o1 ∧ o1.on (fun x4 => if x4 = true then (r = 0) else (r = 50)) (fun r_ => r = r_)) else (r = 50))
def r05_Space.step (self36 : TSpace → Int → Prop) (a0 : TSpace) (r : Int) : Prop :=
  if a0.Tag = 1 then (if ((a0.Dim == 0) && ((a0.Parts.length : Int) == 0)) = true then (r = 0) else (r = 50)) else (if a0.Tag = 2 then (if ((decide (a0.Dim ≥ 0)) && ((decide (a0.Dim ≤ 1048576)) && ((a0.Parts.length : Int) == 0))) = true then (r = 0) else (r = 50)) else (if a0.Tag = 3 then (r05_Space.j1 self36 a0 (a0.Tag == 3) r) else (r05_Space.j1 self36 a0 (a0.Tag == 4) r)))
theorem r05_Space.stepD {self36 : TSpace → Int → Prop} {a0 : TSpace} (hs36 : ∀ z0_ r_, self36 z0_ r_ → D Try.prog X (.callH 36 [.agg (TSpace.lit z0_)] [] (.val (.int .i64 r_)) [])) {r : Int} (h : r05_Space.step self36 a0 r) : D Try.prog X (.callH 36 [.agg (TSpace.lit a0)] [] (.val (.int .i64 r)) []) := by
  unfold r05_Space.step at h
  refine .enter 90 0 fn36 rfl rfl rfl ?_
  refine .seq ?_
  refine .room 0 ?_
  refine .reg0 rfl (.op 0 rfl (bxP (s := 3) (cs := (TSpace.lit a0)) rfl ⟨rfl, by decide, rfl⟩ rfl) <| .op 0 rfl (asV rfl) <| .nil0) ?_
  refine .seq ?_
  refine .reg0 rfl (.op 0 rfl (asV rfl) <| .nil0) ?_
  refine .seq ?_
  refine .seq ?_
  refine .reg0 rfl (.op 0 rfl (faP fa25_0 rfl) <| .op 0 rfl (ldP rfl sz22 ag22 rfl) <| .nil0) ?_
  refine .block ?_
  refine .seq ?_
  refine .reg0 rfl (.op 0 rfl (eqI rfl rfl) <| .op 0 rfl (asV rfl) <| .nil0) ?_
  by_cases c1 : a0.Tag = 1
  · rw [if_pos c1] at h
    refine .condT rfl (beq_iff_eq.mpr c1) ?_
    refine .reg0 (e1 := listEnv [(3, .val (.bool ((a0.Dim == 0) && ((a0.Parts.length : Int) == 0))))]) (H1 := [⟨3, [(TSpace.lit a0)], 0, none⟩]) rfl ?_ ?_
    · by_cases c2 : a0.Dim = 0
      · exact (.op 0 rfl (faP fa25_1 rfl) <| .op 0 rfl (ldP rfl sz3 ag3 rfl) <| .op 0 rfl (eqI rfl rfl) <| .op 0 rfl (mvV rfl) <| .op 0 (gT rfl rfl rfl (beq_iff_eq.mpr c2)) (faP fa25_2 rfl) <| .op 0 (gT rfl rfl rfl (beq_iff_eq.mpr c2)) (ldP rfl sz23 ag23 rfl) <| .op 0 (gT rfl rfl rfl (beq_iff_eq.mpr c2)) (lnR (l := a0.Parts) sl23 rfl) <| .op 0 (gT rfl rfl rfl (beq_iff_eq.mpr c2)) (eqI rfl rfl) <| .op 0 rfl (pkTV rfl (beq_iff_eq.mpr c2) rfl) <| .op 0 rfl (asV rfl) <| .nilL _ ⟨cB rfl (mAndT (beq_iff_eq.mpr c2) rfl), trivial⟩)
      · exact (.op 0 rfl (faP fa25_1 rfl) <| .op 0 rfl (ldP rfl sz3 ag3 rfl) <| .op 0 rfl (eqI rfl rfl) <| .op 0 rfl (mvV rfl) <| .no (gF rfl rfl rfl (beq_eq_false_iff_ne.mpr c2)) <| .no (gF rfl rfl rfl (beq_eq_false_iff_ne.mpr c2)) <| .no (gF rfl rfl rfl (beq_eq_false_iff_ne.mpr c2)) <| .no (gF rfl rfl rfl (beq_eq_false_iff_ne.mpr c2)) <| .op 0 rfl (pkFV rfl (beq_eq_false_iff_ne.mpr c2) rfl) <| .op 0 rfl (asV rfl) <| .nilL _ ⟨cB rfl (mAndF (beq_eq_false_iff_ne.mpr c2)), trivial⟩)
    refine .inBlock ?_
    refine .seq ?_
    refine .seq ?_
    refine .reg0 rfl (.op 0 rfl (mvV rfl) <| .op 0 rfl (notB rfl) <| .nil0) ?_
    by_cases c3 : ((a0.Dim == 0) && ((a0.Parts.length : Int) == 0)) = true
    · rw [if_pos c3] at h
      refine .condF rfl (bnotF c3) ?_
      refine .skip ?_
      refine .seq ?_
      refine .reg0 rfl (.op 0 rfl (asV rfl) <| .nil0) ?_
      replace h := h.symm
      subst h
      refine .keepL [] [(2, .val (.int .i64 0))] [] (by decide) (by decide) ⟨.free rfl rfl, trivial⟩ trivial ?_
      exact .ret rfl
    · rw [if_neg c3] at h
      refine .condT rfl (bnotT (Bool.eq_false_iff.mpr c3)) ?_
      refine .seq ?_
      refine .reg0 rfl (.op 0 rfl (asV rfl) <| .nil0) ?_
      replace h := h.symm
      subst h
      refine .keepL [] [(2, .val (.int .i64 50))] [] (by decide) (by decide) ⟨.free rfl rfl, trivial⟩ trivial ?_
      exact .ret rfl
  · rw [if_neg c1] at h
    refine .condF rfl (beq_eq_false_iff_ne.mpr c1) ?_
    refine .seq ?_
    refine .reg0 rfl (.op 0 rfl (eqI rfl rfl) <| .op 0 rfl (asV rfl) <| .nil0) ?_
    by_cases c4 : a0.Tag = 2
    · rw [if_pos c4] at h
      refine .condT rfl (beq_iff_eq.mpr c4) ?_
      refine .reg0 (e1 := listEnv [(3, .val (.bool ((decide (a0.Dim ≥ 0)) && ((decide (a0.Dim ≤ 1048576)) && ((a0.Parts.length : Int) == 0)))))]) (H1 := [⟨3, [(TSpace.lit a0)], 0, none⟩]) rfl ?_ ?_
      · by_cases c5 : a0.Dim ≥ 0
        · by_cases c6 : a0.Dim ≤ 1048576
          · exact (.op 0 rfl (faP fa25_1 rfl) <| .op 0 rfl (ldP rfl sz3 ag3 rfl) <| .op 0 rfl (geI rfl rfl) <| .op 0 rfl (mvV rfl) <| .op 0 (gT rfl rfl rfl (decide_eq_true c5)) (faP fa25_1 rfl) <| .op 0 (gT rfl rfl rfl (decide_eq_true c5)) (ldP rfl sz3 ag3 rfl) <| .op 0 (gT rfl rfl rfl (decide_eq_true c5)) (leI rfl rfl) <| .op 0 rfl (pkTV rfl (decide_eq_true c5) rfl) <| .op 0 rfl (mvV rfl) <| .op 0 (gT rfl rfl rfl (decide_eq_true c6)) (faP fa25_2 rfl) <| .op 0 (gT rfl rfl rfl (decide_eq_true c6)) (ldP rfl sz23 ag23 rfl) <| .op 0 (gT rfl rfl rfl (decide_eq_true c6)) (lnR (l := a0.Parts) sl23 rfl) <| .op 0 (gT rfl rfl rfl (decide_eq_true c6)) (eqI rfl rfl) <| .op 0 rfl (pkTV rfl (decide_eq_true c6) rfl) <| .op 0 rfl (asV rfl) <| .nilL _ ⟨cB rfl (mAndT (decide_eq_true c5) (mAndT (decide_eq_true c6) rfl)), trivial⟩)
          · exact (.op 0 rfl (faP fa25_1 rfl) <| .op 0 rfl (ldP rfl sz3 ag3 rfl) <| .op 0 rfl (geI rfl rfl) <| .op 0 rfl (mvV rfl) <| .op 0 (gT rfl rfl rfl (decide_eq_true c5)) (faP fa25_1 rfl) <| .op 0 (gT rfl rfl rfl (decide_eq_true c5)) (ldP rfl sz3 ag3 rfl) <| .op 0 (gT rfl rfl rfl (decide_eq_true c5)) (leI rfl rfl) <| .op 0 rfl (pkTV rfl (decide_eq_true c5) rfl) <| .op 0 rfl (mvV rfl) <| .no (gF rfl rfl rfl (decide_eq_false c6)) <| .no (gF rfl rfl rfl (decide_eq_false c6)) <| .no (gF rfl rfl rfl (decide_eq_false c6)) <| .no (gF rfl rfl rfl (decide_eq_false c6)) <| .op 0 rfl (pkFV rfl (decide_eq_false c6) rfl) <| .op 0 rfl (asV rfl) <| .nilL _ ⟨cB rfl (mAndT (decide_eq_true c5) (mAndF (decide_eq_false c6))), trivial⟩)
        · exact (.op 0 rfl (faP fa25_1 rfl) <| .op 0 rfl (ldP rfl sz3 ag3 rfl) <| .op 0 rfl (geI rfl rfl) <| .op 0 rfl (mvV rfl) <| .no (gF rfl rfl rfl (decide_eq_false c5)) <| .no (gF rfl rfl rfl (decide_eq_false c5)) <| .no (gF rfl rfl rfl (decide_eq_false c5)) <| .op 0 rfl (pkFV rfl (decide_eq_false c5) rfl) <| .op 0 rfl (mvV rfl) <| .no (gF rfl rfl rfl rfl) <| .no (gF rfl rfl rfl rfl) <| .no (gF rfl rfl rfl rfl) <| .no (gF rfl rfl rfl rfl) <| .op 0 rfl (pkFV rfl rfl rfl) <| .op 0 rfl (asV rfl) <| .nilL _ ⟨cB rfl (mAndF (decide_eq_false c5)), trivial⟩)
      refine .inBlock ?_
      refine .seq ?_
      refine .seq ?_
      refine .reg0 rfl (.op 0 rfl (mvV rfl) <| .op 0 rfl (notB rfl) <| .nil0) ?_
      by_cases c7 : ((decide (a0.Dim ≥ 0)) && ((decide (a0.Dim ≤ 1048576)) && ((a0.Parts.length : Int) == 0))) = true
      · rw [if_pos c7] at h
        refine .condF rfl (bnotF c7) ?_
        refine .skip ?_
        refine .seq ?_
        refine .reg0 rfl (.op 0 rfl (asV rfl) <| .nil0) ?_
        replace h := h.symm
        subst h
        refine .keepL [] [(2, .val (.int .i64 0))] [] (by decide) (by decide) ⟨.free rfl rfl, trivial⟩ trivial ?_
        exact .ret rfl
      · rw [if_neg c7] at h
        refine .condT rfl (bnotT (Bool.eq_false_iff.mpr c7)) ?_
        refine .seq ?_
        refine .reg0 rfl (.op 0 rfl (asV rfl) <| .nil0) ?_
        replace h := h.symm
        subst h
        refine .keepL [] [(2, .val (.int .i64 50))] [] (by decide) (by decide) ⟨.free rfl rfl, trivial⟩ trivial ?_
        exact .ret rfl
    · rw [if_neg c4] at h
      refine .condF rfl (beq_eq_false_iff_ne.mpr c4) ?_
      refine .seq ?_
      refine .seq ?_
      refine .reg0 rfl (.op 0 rfl (eqI rfl rfl) <| .op 0 rfl (asV rfl) <| .nil0) ?_
      refine .consJ (fun s_ => r05_Space.j1 self36 a0 s_ r) (fun x1 => listEnv [(1, .ptr 0 1 3 0 0), (6, .val (.int .i64 a0.Tag)), (34, .val (.bool x1))]) (fun x1 => [⟨3, [(TSpace.lit a0)], 0, none⟩]) ?_ fun hJ1 => ?_
      · rintro x1 h
        unfold r05_Space.j1 at h
        try dsimp only at h
        by_cases c9 : x1 = true
        · rw [if_pos c9] at h
          refine .condT rfl c9 ?_
          refine .reg0 (e1 := listEnv [(3, .val (.bool ((decide (a0.Dim ≥ 0)) && ((decide (a0.Dim ≤ 64)) && ((a0.Parts.length : Int) == 0)))))]) (H1 := [⟨3, [(TSpace.lit a0)], 0, none⟩]) rfl ?_ ?_
          · by_cases c10 : a0.Dim ≥ 0
            · by_cases c11 : a0.Dim ≤ 64
              · exact (.op 0 rfl (faP fa25_1 rfl) <| .op 0 rfl (ldP rfl sz3 ag3 rfl) <| .op 0 rfl (geI rfl rfl) <| .op 0 rfl (mvV rfl) <| .op 0 (gT rfl rfl rfl (decide_eq_true c10)) (faP fa25_1 rfl) <| .op 0 (gT rfl rfl rfl (decide_eq_true c10)) (ldP rfl sz3 ag3 rfl) <| .op 0 (gT rfl rfl rfl (decide_eq_true c10)) (leI rfl rfl) <| .op 0 rfl (pkTV rfl (decide_eq_true c10) rfl) <| .op 0 rfl (mvV rfl) <| .op 0 (gT rfl rfl rfl (decide_eq_true c11)) (faP fa25_2 rfl) <| .op 0 (gT rfl rfl rfl (decide_eq_true c11)) (ldP rfl sz23 ag23 rfl) <| .op 0 (gT rfl rfl rfl (decide_eq_true c11)) (lnR (l := a0.Parts) sl23 rfl) <| .op 0 (gT rfl rfl rfl (decide_eq_true c11)) (eqI rfl rfl) <| .op 0 rfl (pkTV rfl (decide_eq_true c11) rfl) <| .op 0 rfl (asV rfl) <| .nilL _ ⟨cB rfl (mAndT (decide_eq_true c10) (mAndT (decide_eq_true c11) rfl)), trivial⟩)
              · exact (.op 0 rfl (faP fa25_1 rfl) <| .op 0 rfl (ldP rfl sz3 ag3 rfl) <| .op 0 rfl (geI rfl rfl) <| .op 0 rfl (mvV rfl) <| .op 0 (gT rfl rfl rfl (decide_eq_true c10)) (faP fa25_1 rfl) <| .op 0 (gT rfl rfl rfl (decide_eq_true c10)) (ldP rfl sz3 ag3 rfl) <| .op 0 (gT rfl rfl rfl (decide_eq_true c10)) (leI rfl rfl) <| .op 0 rfl (pkTV rfl (decide_eq_true c10) rfl) <| .op 0 rfl (mvV rfl) <| .no (gF rfl rfl rfl (decide_eq_false c11)) <| .no (gF rfl rfl rfl (decide_eq_false c11)) <| .no (gF rfl rfl rfl (decide_eq_false c11)) <| .no (gF rfl rfl rfl (decide_eq_false c11)) <| .op 0 rfl (pkFV rfl (decide_eq_false c11) rfl) <| .op 0 rfl (asV rfl) <| .nilL _ ⟨cB rfl (mAndT (decide_eq_true c10) (mAndF (decide_eq_false c11))), trivial⟩)
            · exact (.op 0 rfl (faP fa25_1 rfl) <| .op 0 rfl (ldP rfl sz3 ag3 rfl) <| .op 0 rfl (geI rfl rfl) <| .op 0 rfl (mvV rfl) <| .no (gF rfl rfl rfl (decide_eq_false c10)) <| .no (gF rfl rfl rfl (decide_eq_false c10)) <| .no (gF rfl rfl rfl (decide_eq_false c10)) <| .op 0 rfl (pkFV rfl (decide_eq_false c10) rfl) <| .op 0 rfl (mvV rfl) <| .no (gF rfl rfl rfl rfl) <| .no (gF rfl rfl rfl rfl) <| .no (gF rfl rfl rfl rfl) <| .no (gF rfl rfl rfl rfl) <| .op 0 rfl (pkFV rfl rfl rfl) <| .op 0 rfl (asV rfl) <| .nilL _ ⟨cB rfl (mAndF (decide_eq_false c10)), trivial⟩)
          refine .inBlock ?_
          refine .seq ?_
          refine .seq ?_
          refine .reg0 rfl (.op 0 rfl (mvV rfl) <| .op 0 rfl (notB rfl) <| .nil0) ?_
          by_cases c12 : ((decide (a0.Dim ≥ 0)) && ((decide (a0.Dim ≤ 64)) && ((a0.Parts.length : Int) == 0))) = true
          · rw [if_pos c12] at h
            refine .condF rfl (bnotF c12) ?_
            refine .skip ?_
            refine .seq ?_
            refine .reg0 rfl (.op 0 rfl (asV rfl) <| .nil0) ?_
            replace h := h.symm
            subst h
            refine .keepL [] [(2, .val (.int .i64 0))] [] (by decide) (by decide) ⟨.free rfl rfl, trivial⟩ trivial ?_
            exact .ret rfl
          · rw [if_neg c12] at h
            refine .condT rfl (bnotT (Bool.eq_false_iff.mpr c12)) ?_
            refine .seq ?_
            refine .reg0 rfl (.op 0 rfl (asV rfl) <| .nil0) ?_
            replace h := h.symm
            subst h
            refine .keepL [] [(2, .val (.int .i64 50))] [] (by decide) (by decide) ⟨.free rfl rfl, trivial⟩ trivial ?_
            exact .ret rfl
        · rw [if_neg c9] at h
          refine .condF rfl (Bool.eq_false_iff.mpr c9) ?_
          refine .seq ?_
          refine .reg0 rfl (.op 0 rfl (eqI rfl rfl) <| .op 0 rfl (asV rfl) <| .nil0) ?_
          by_cases c13 : a0.Tag = 5
          · rw [if_pos c13] at h
            refine .condT rfl (beq_iff_eq.mpr c13) ?_
            refine .seq ?_
            refine .reg0 (e1 := listEnv [(1, .ptr 0 1 3 0 0), (3, .val (.bool ((a0.Dim == 0) && ((a0.Parts.length : Int) == 2))))]) (H1 := [⟨3, [(TSpace.lit a0)], 0, none⟩]) rfl ?_ ?_
            · by_cases c14 : a0.Dim = 0
              · exact (.op 0 rfl (faP fa25_1 rfl) <| .op 0 rfl (ldP rfl sz3 ag3 rfl) <| .op 0 rfl (eqI rfl rfl) <| .op 0 rfl (mvV rfl) <| .op 0 (gT rfl rfl rfl (beq_iff_eq.mpr c14)) (faP fa25_2 rfl) <| .op 0 (gT rfl rfl rfl (beq_iff_eq.mpr c14)) (ldP rfl sz23 ag23 rfl) <| .op 0 (gT rfl rfl rfl (beq_iff_eq.mpr c14)) (lnR (l := a0.Parts) sl23 rfl) <| .op 0 (gT rfl rfl rfl (beq_iff_eq.mpr c14)) (eqI rfl rfl) <| .op 0 rfl (pkTV rfl (beq_iff_eq.mpr c14) rfl) <| .op 0 rfl (asV rfl) <| .nilL _ ⟨.ptr rfl, cB rfl (mAndT (beq_iff_eq.mpr c14) rfl), trivial⟩)
              · exact (.op 0 rfl (faP fa25_1 rfl) <| .op 0 rfl (ldP rfl sz3 ag3 rfl) <| .op 0 rfl (eqI rfl rfl) <| .op 0 rfl (mvV rfl) <| .no (gF rfl rfl rfl (beq_eq_false_iff_ne.mpr c14)) <| .no (gF rfl rfl rfl (beq_eq_false_iff_ne.mpr c14)) <| .no (gF rfl rfl rfl (beq_eq_false_iff_ne.mpr c14)) <| .no (gF rfl rfl rfl (beq_eq_false_iff_ne.mpr c14)) <| .op 0 rfl (pkFV rfl (beq_eq_false_iff_ne.mpr c14) rfl) <| .op 0 rfl (asV rfl) <| .nilL _ ⟨.ptr rfl, cB rfl (mAndF (beq_eq_false_iff_ne.mpr c14)), trivial⟩)
            refine .seq ?_
            refine .reg0 rfl (.op 0 rfl (asV rfl) <| .nil0) ?_
            refine .block ?_
            refine .keepL [0] [(1, .ptr 0 1 3 0 0), (3, .val (.bool ((a0.Dim == 0) && ((a0.Parts.length : Int) == 2)))), (4, .val (.int .i64 0))] [⟨3, [(TSpace.lit a0)], 0, none⟩] (by decide) (by decide) ⟨.ptr rfl, .free rfl rfl, .free rfl rfl, trivial⟩ ⟨⟨_, rfl, bcBox (all2_free rfl)⟩, trivial⟩ ?_
            obtain ⟨o1, hL1, h⟩ := h
            refine .loopB (r05_Space.b1 self36 a0) (fun (x2, x3) => listEnv [(1, .ptr 0 1 3 0 0), (3, .val (.bool x2)), (4, .val (.int .i64 x3))]) (fun (x2, x3) => [⟨3, [(TSpace.lit a0)], 0, none⟩]) (fun x4 => listEnv [(3, .val (.bool x4))]) (fun x4 => []) hL1 (fun r_ => r = r_) ?_ ?_ ?_
            · rintro x4 rfl
              try dsimp only [Fin.on] at h
              refine .inBlock ?_
              refine .seq ?_
              refine .seq ?_
              refine .reg0 rfl (.op 0 rfl (mvV rfl) <| .op 0 rfl (notB rfl) <| .nil0) ?_
              by_cases c24 : x4 = true
              · rw [if_pos c24] at h
                refine .condF rfl (bnotF c24) ?_
                refine .skip ?_
                refine .seq ?_
                refine .reg0 rfl (.op 0 rfl (asV rfl) <| .nil0) ?_
                replace h := h.symm
                subst h
                refine .keepL [] [(2, .val (.int .i64 0))] [] (by decide) (by decide) ⟨.free rfl rfl, trivial⟩ trivial ?_
                exact .ret rfl
              · rw [if_neg c24] at h
                refine .condT rfl (bnotT (Bool.eq_false_iff.mpr c24)) ?_
                refine .seq ?_
                refine .reg0 rfl (.op 0 rfl (asV rfl) <| .nil0) ?_
                replace h := h.symm
                subst h
                refine .keepL [] [(2, .val (.int .i64 50))] [] (by decide) (by decide) ⟨.free rfl rfl, trivial⟩ trivial ?_
                exact .ret rfl
            · rintro r_ rfl
              exact h
            · rintro ⟨x2, x3⟩ z1 h hn1 hx1 hr1
              dsimp only [r05_Space.b1] at h
              refine .seq ?_
              refine .seq ?_
              refine .reg0 (e1 := listEnv [(1, .ptr 0 1 3 0 0), (3, .val (.bool x2)), (4, .val (.int .i64 x3)), (69, .val (.bool ((decide (x3 < (a0.Parts.length : Int))) && x2)))]) (H1 := [⟨3, [(TSpace.lit a0)], 0, none⟩]) rfl ?_ ?_
              · by_cases c21 : x3 < (a0.Parts.length : Int)
                · exact (.op 0 rfl (mvV rfl) <| .op 0 rfl (faP fa25_2 rfl) <| .op 0 rfl (ldP rfl sz23 ag23 rfl) <| .op 0 rfl (lnR (l := a0.Parts) sl23 rfl) <| .op 0 rfl (ltI rfl rfl) <| .op 0 rfl (mvV rfl) <| .op 0 (gT rfl rfl rfl (decide_eq_true c21)) (mvV rfl) <| .op 0 rfl (pkTV rfl (decide_eq_true c21) rfl) <| .nilL _ ⟨.ptr rfl, .free rfl rfl, .free rfl rfl, cB rfl (mAndT (decide_eq_true c21) rfl), trivial⟩)
                · exact (.op 0 rfl (mvV rfl) <| .op 0 rfl (faP fa25_2 rfl) <| .op 0 rfl (ldP rfl sz23 ag23 rfl) <| .op 0 rfl (lnR (l := a0.Parts) sl23 rfl) <| .op 0 rfl (ltI rfl rfl) <| .op 0 rfl (mvV rfl) <| .no (gF rfl rfl rfl (decide_eq_false c21)) <| .op 0 rfl (pkFV rfl (decide_eq_false c21) rfl) <| .nilL _ ⟨.ptr rfl, .free rfl rfl, .free rfl rfl, cB rfl (mAndF (decide_eq_false c21)), trivial⟩)
              by_cases c22 : ((decide (x3 < (a0.Parts.length : Int))) && x2) = true
              · rw [if_pos c22] at h
                refine .condT rfl c22 ?_
                refine .skip ?_
                refine .seq ?_
                refine .block ?_
                obtain ⟨g30_3, h⟩ := h
                obtain ⟨g30_11, h⟩ := h
                obtain ⟨t30_13, g30_13, h⟩ := h
                refine .reg0 (e1 := listEnv [(1, .ptr 0 1 3 0 0), (3, .val (.bool ((!((rdl a0.Parts x3).Tag == 5)) && (t30_13 == 0)))), (4, .val (.int .i64 x3))]) (H1 := [⟨3, [(TSpace.lit a0)], 0, none⟩]) rfl ?_ ?_
                · by_cases c23 : (rdl a0.Parts x3).Tag = 5
                  · exact (.op 0 rfl (faP fa25_2 rfl) <| .op 0 rfl (ldP rfl sz23 ag23 rfl) <| .op 0 rfl (mvV rfl) <| .op 0 rfl (ixR (l := a0.Parts) (lit := TSpace.lit) sl23 rfl rfl TSpace.cells_lit g30_3.1 g30_3.2) <| .op 0 rfl (faC fa25_0 rfl) <| .op 0 rfl (ldC rfl sz22 ag22 rfl) <| .op 0 rfl (neI rfl rfl) <| .op 0 rfl (mvV rfl) <| .no (gF rfl rfl rfl (bne_eq_false_iff_eq.mpr c23)) <| .no (gF rfl rfl rfl (bne_eq_false_iff_eq.mpr c23)) <| .no (gF rfl rfl rfl (bne_eq_false_iff_eq.mpr c23)) <| .no (gF rfl rfl rfl (bne_eq_false_iff_eq.mpr c23)) <| .no (gF rfl rfl rfl (bne_eq_false_iff_eq.mpr c23)) <| .no (gF rfl rfl rfl (bne_eq_false_iff_eq.mpr c23)) <| .no (gF rfl rfl rfl (bne_eq_false_iff_eq.mpr c23)) <| .op 0 rfl (pkFV rfl (bne_eq_false_iff_eq.mpr c23) rfl) <| .op 0 rfl (asV rfl) <| .nilL _ ⟨.ptr rfl, cB rfl (mAndF (bnotF (beq_iff_eq.mpr c23))), .free rfl rfl, trivial⟩)
                  · exact (.op 0 rfl (faP fa25_2 rfl) <| .op 0 rfl (ldP rfl sz23 ag23 rfl) <| .op 0 rfl (mvV rfl) <| .op 0 rfl (ixR (l := a0.Parts) (lit := TSpace.lit) sl23 rfl rfl TSpace.cells_lit g30_3.1 g30_3.2) <| .op 0 rfl (faC fa25_0 rfl) <| .op 0 rfl (ldC rfl sz22 ag22 rfl) <| .op 0 rfl (neI rfl rfl) <| .op 0 rfl (mvV rfl) <| .op 0 (gT rfl rfl rfl (bne_iff_ne.mpr c23)) (faP fa25_2 rfl) <| .op 0 (gT rfl rfl rfl (bne_iff_ne.mpr c23)) (ldP rfl sz23 ag23 rfl) <| .op 0 (gT rfl rfl rfl (bne_iff_ne.mpr c23)) (mvV rfl) <| .op 0 (gT rfl rfl rfl (bne_iff_ne.mpr c23)) (ixR (l := a0.Parts) (lit := TSpace.lit) sl23 rfl rfl TSpace.cells_lit (g30_11 c23).1 (g30_11 c23).2) <| .op 0 (gT rfl rfl rfl (bne_iff_ne.mpr c23)) (ldCG rfl sz25 ag25 rfl) <| .callI (gT rfl rfl rfl (bne_iff_ne.mpr c23)) (callee_of rfl go36 rfl) (.pure rfl rfl (hs36 _ _ (g30_13 c23))) <| .op 0 (gT rfl rfl rfl (bne_iff_ne.mpr c23)) (eqI rfl rfl) <| .op 0 rfl (pkTV rfl (bne_iff_ne.mpr c23) rfl) <| .op 0 rfl (asV rfl) <| .nilL _ ⟨.ptr rfl, cB rfl (mAndT (bnotT (beq_eq_false_iff_ne.mpr c23)) rfl), .free rfl rfl, trivial⟩)
                refine .inBlock ?_
                refine .reg0 rfl (.op 0 rfl (mvV rfl) <| .op 0 rfl (addI rfl rfl) <| .op 0 rfl (asV rfl) <| .nil0) ?_
                refine .keepL [0] [(1, .ptr 0 1 3 0 0), (3, .val (.bool ((!((rdl a0.Parts x3).Tag == 5)) && (t30_13 == 0)))), (4, .val (.int .i64 (IntKind.i64.wrap (x3 + 1))))] [⟨3, [(TSpace.lit a0)], 0, none⟩] (by decide) (by decide) ⟨.ptr rfl, .free rfl rfl, .free rfl rfl, trivial⟩ ⟨⟨_, rfl, bcBox (all2_free rfl)⟩, trivial⟩ ?_
                exact hn1 _ h
              · rw [if_neg c22] at h
                refine .condF rfl (Bool.eq_false_iff.mpr c22) ?_
                refine .exit rfl ?_
                refine .keepL [] [(3, .val (.bool x2))] [] (by decide) (by decide) ⟨.free rfl rfl, trivial⟩ trivial ?_
                exact hx1 _ h
          · rw [if_neg c13] at h
            refine .condF rfl (beq_eq_false_iff_ne.mpr c13) ?_
            refine .reg0 rfl (.op 0 rfl (asV rfl) <| .nil0) ?_
            refine .inBlock ?_
            refine .seq ?_
            refine .seq ?_
            refine .reg0 rfl (.op 0 rfl (mvV rfl) <| .op 0 rfl (notB rfl) <| .nil0) ?_
            refine .condT rfl (bnotT rfl) ?_
            refine .seq ?_
            refine .reg0 rfl (.op 0 rfl (asV rfl) <| .nil0) ?_
            replace h := h.symm
            subst h
            refine .keepL [] [(2, .val (.int .i64 50))] [] (by decide) (by decide) ⟨.free rfl rfl, trivial⟩ trivial ?_
            exact .ret rfl
      · by_cases c25 : a0.Tag = 3
        · rw [if_pos c25] at h
          refine .condT rfl (beq_iff_eq.mpr c25) ?_
          refine .skip ?_
          refine .keepL [0] [(1, .ptr 0 1 3 0 0), (6, .val (.int .i64 a0.Tag)), (34, .val (.bool (a0.Tag == 3)))] [⟨3, [(TSpace.lit a0)], 0, none⟩] (by decide) (by decide) ⟨.ptr rfl, .free rfl rfl, .free rfl rfl, trivial⟩ ⟨⟨_, rfl, bcBox (all2_free rfl)⟩, trivial⟩ ?_
          exact hJ1 _ h
        · rw [if_neg c25] at h
          refine .condF rfl (beq_eq_false_iff_ne.mpr c25) ?_
          refine .reg0 rfl (.op 0 rfl (eqI rfl rfl) <| .op 0 rfl (asV rfl) <| .nil0) ?_
          refine .keepL [0] [(1, .ptr 0 1 3 0 0), (6, .val (.int .i64 a0.Tag)), (34, .val (.bool (a0.Tag == 4)))] [⟨3, [(TSpace.lit a0)], 0, none⟩] (by decide) (by decide) ⟨.ptr rfl, .free rfl rfl, .free rfl rfl, trivial⟩ ⟨⟨_, rfl, bcBox (all2_free rfl)⟩, trivial⟩ ?_
          exact hJ1 _ h
def r05_Space.fN : Nat → TSpace → Int → Prop
  | 0 => fun _ _ => False
  | n + 1 => r05_Space.step (r05_Space.fN n)
theorem r05_Space.ND : ∀ (n : Nat) {a0 : TSpace} {r : Int} (h : r05_Space.fN n a0 r), D Try.prog X (.callH 36 [.agg (TSpace.lit a0)] [] (.val (.int .i64 r)) [])
  | 0, _, _, h => h.elim
  | n + 1, _, _, h => r05_Space.stepD (fun _ _ h => r05_Space.ND n h) h
def r05_Space.f (a0 : TSpace) (r : Int) : Prop := ∃ n, r05_Space.fN n a0 r
theorem r05_Space.D {a0 : TSpace} {r : Int} (h : r05_Space.f a0 r) : D Try.prog X (.callH 36 [.agg (TSpace.lit a0)] [] (.val (.int .i64 r)) []) := by obtain ⟨n, h⟩ := h; exact r05_Space.ND n h
def r11_in.f (a0 : Int) (a1 : Int) (r : Bool) : Prop :=
  r = ((decide (a0 ≥ 0)) && (decide (a0 < a1)))
theorem r11_in.D {a0 : Int} {a1 : Int} {r : Bool} (h : r11_in.f a0 a1 r) : D Try.prog X (.callH 53 [.val (.int .i64 a0), .val (.int .i64 a1)] [] (.val (.bool r)) []) := by
  unfold r11_in.f at h
  refine .enter 12 0 fn53 rfl rfl rfl ?_
  refine .seq ?_
  refine .reg0 rfl (.op 0 rfl (asV rfl) <| .nil0) ?_
  refine .seq ?_
  refine .reg0 (e1 := listEnv [(4, .val (.bool ((decide (a0 ≥ 0)) && (decide (a0 < a1)))))]) (H1 := []) rfl ?_ ?_
  · by_cases c1 : a0 ≥ 0
    · exact (.op 0 rfl (mvV rfl) <| .op 0 rfl (geI rfl rfl) <| .op 0 rfl (mvV rfl) <| .op 0 (gT rfl rfl rfl (decide_eq_true c1)) (mvV rfl) <| .op 0 (gT rfl rfl rfl (decide_eq_true c1)) (mvV rfl) <| .op 0 (gT rfl rfl rfl (decide_eq_true c1)) (ltI rfl rfl) <| .op 0 rfl (pkTV rfl (decide_eq_true c1) rfl) <| .op 0 rfl (asV rfl) <| .nilL _ ⟨cB rfl (mAndT (decide_eq_true c1) rfl), trivial⟩)
    · exact (.op 0 rfl (mvV rfl) <| .op 0 rfl (geI rfl rfl) <| .op 0 rfl (mvV rfl) <| .no (gF rfl rfl rfl (decide_eq_false c1)) <| .no (gF rfl rfl rfl (decide_eq_false c1)) <| .no (gF rfl rfl rfl (decide_eq_false c1)) <| .op 0 rfl (pkFV rfl (decide_eq_false c1) rfl) <| .op 0 rfl (asV rfl) <| .nilL _ ⟨cB rfl (mAndF (decide_eq_false c1)), trivial⟩)
  replace h := h.symm
  subst h
  refine .keepL [] [(4, .val (.bool ((decide (a0 ≥ 0)) && (decide (a0 < a1)))))] [] (by decide) (by decide) ⟨.free rfl rfl, trivial⟩ trivial ?_
  exact .ret rfl
def r11_rule.b1 (a0 : TPds) (a1 : TRule) : Int → Rnd Int Unit Bool → Prop := fun x1 z1 => if x1 < (a1.W.length : Int) then (((InR x1 a1.W.length)) ∧ ∃ t14_7 : Bool, (r11_in.f (rdl a1.W x1) a0.Symbols t14_7) ∧ if t14_7 = true then (z1 = .next (IntKind.i64.wrap (x1 + 1))) else (z1 = .ret false)) else (z1 = .exit ())
def r11_rule.f (a0 : TPds) (a1 : TRule) (r : Bool) : Prop :=
  ∃ t2_4 : Bool, (r11_in.f a1.P a0.States t2_4) ∧ ∃ t2_11 : Bool, ((t2_4 = true) → r11_in.f a1.Q a0.States t2_11) ∧ ∃ t2_19 : Bool, ((t2_4 = true) → (t2_11 = true) → r11_in.f a1.G a0.Symbols t2_19) ∧ if ((!t2_4) || ((!t2_11) || ((!t2_19) || (decide ((a1.W.length : Int) > 4096))))) = true then (r = false) else (∃ o1 : Fin Unit Bool, Loop (r11_rule.b1 a0 a1) 0 o1 ∧ o1.on (fun _ => r = true) (fun r_ => r = r_))
theorem r11_rule.D {a0 : TPds} {a1 : TRule} {r : Bool} (h : r11_rule.f a0 a1 r) : D Try.prog X (.callH 37 [.agg (TPds.lit a0), .agg (TRule.lit a1)] [] (.val (.bool r)) []) := by
  unfold r11_rule.f at h
  refine .enter 50 0 fn37 rfl rfl rfl ?_
  refine .seq ?_
  refine .room 0 ?_
  refine .room 0 ?_
  refine .reg0 rfl (.op 0 rfl (bxP (s := 6) (cs := (TPds.lit a0)) rfl ⟨rfl, by decide, rfl⟩ rfl) <| .op 1 rfl (bxP (s := 10) (cs := (TRule.lit a1)) rfl ⟨rfl, by decide, rfl⟩ rfl) <| .op 0 rfl (asV rfl) <| .nil0) ?_
  refine .seq ?_
  refine .seq ?_
  obtain ⟨t2_4, g2_4, h⟩ := h
  obtain ⟨t2_11, g2_11, h⟩ := h
  obtain ⟨t2_19, g2_19, h⟩ := h
  refine .reg0 (e1 := listEnv [(2, .ptr 0 1 6 0 0), (3, .ptr 1 1 10 0 0), (33, .val (.bool ((!t2_4) || ((!t2_11) || ((!t2_19) || (decide ((a1.W.length : Int) > 4096)))))))]) (H1 := [⟨6, [(TPds.lit a0)], 0, none⟩, ⟨10, [(TRule.lit a1)], 0, none⟩]) rfl ?_ ?_
  · by_cases c1 : t2_4 = true
    · by_cases c2 : t2_11 = true
      · by_cases c3 : t2_19 = true
        · exact (.op 0 rfl (faP fa77_0 rfl) <| .op 0 rfl (ldP rfl sz3 ag3 rfl) <| .op 0 rfl (faP fa28_1 rfl) <| .op 0 rfl (ldP rfl sz3 ag3 rfl) <| .callI rfl (callee_of rfl go53 rfl) (.pure rfl rfl (r11_in.D g2_4)) <| .op 0 rfl (notB rfl) <| .op 0 rfl (mvV rfl) <| .op 0 (gT rfl rfl rfl (bnotF c1)) (faP fa77_2 rfl) <| .op 0 (gT rfl rfl rfl (bnotF c1)) (ldP rfl sz3 ag3 rfl) <| .op 0 (gT rfl rfl rfl (bnotF c1)) (faP fa28_1 rfl) <| .op 0 (gT rfl rfl rfl (bnotF c1)) (ldP rfl sz3 ag3 rfl) <| .callI (gT rfl rfl rfl (bnotF c1)) (callee_of rfl go53 rfl) (.pure rfl rfl (r11_in.D (g2_11 c1))) <| .op 0 (gT rfl rfl rfl (bnotF c1)) (notB rfl) <| .op 0 rfl (pkFV rfl (bnotF c1) rfl) <| .op 0 rfl (mvV rfl) <| .op 0 (gT rfl rfl rfl (bnotF c2)) (faP fa77_1 rfl) <| .op 0 (gT rfl rfl rfl (bnotF c2)) (ldP rfl sz3 ag3 rfl) <| .op 0 (gT rfl rfl rfl (bnotF c2)) (faP fa28_2 rfl) <| .op 0 (gT rfl rfl rfl (bnotF c2)) (ldP rfl sz3 ag3 rfl) <| .callI (gT rfl rfl rfl (bnotF c2)) (callee_of rfl go53 rfl) (.pure rfl rfl (r11_in.D (g2_19 c1 c2))) <| .op 0 (gT rfl rfl rfl (bnotF c2)) (notB rfl) <| .op 0 rfl (pkFV rfl (bnotF c2) rfl) <| .op 0 rfl (mvV rfl) <| .op 0 (gT rfl rfl rfl (bnotF c3)) (faP fa77_3 rfl) <| .op 0 (gT rfl rfl rfl (bnotF c3)) (ldP rfl sz29 ag29 rfl) <| .op 0 (gT rfl rfl rfl (bnotF c3)) (lnR (l := a1.W) sl29 rfl) <| .op 0 (gT rfl rfl rfl (bnotF c3)) (gtI rfl rfl) <| .op 0 rfl (pkFV rfl (bnotF c3) rfl) <| .nilL _ ⟨.ptr rfl, .ptr rfl, cB rfl (mOrF (bnotF c1) (mOrF (bnotF c2) (mOrF (bnotF c3) rfl))), trivial⟩)
        · exact (.op 0 rfl (faP fa77_0 rfl) <| .op 0 rfl (ldP rfl sz3 ag3 rfl) <| .op 0 rfl (faP fa28_1 rfl) <| .op 0 rfl (ldP rfl sz3 ag3 rfl) <| .callI rfl (callee_of rfl go53 rfl) (.pure rfl rfl (r11_in.D g2_4)) <| .op 0 rfl (notB rfl) <| .op 0 rfl (mvV rfl) <| .op 0 (gT rfl rfl rfl (bnotF c1)) (faP fa77_2 rfl) <| .op 0 (gT rfl rfl rfl (bnotF c1)) (ldP rfl sz3 ag3 rfl) <| .op 0 (gT rfl rfl rfl (bnotF c1)) (faP fa28_1 rfl) <| .op 0 (gT rfl rfl rfl (bnotF c1)) (ldP rfl sz3 ag3 rfl) <| .callI (gT rfl rfl rfl (bnotF c1)) (callee_of rfl go53 rfl) (.pure rfl rfl (r11_in.D (g2_11 c1))) <| .op 0 (gT rfl rfl rfl (bnotF c1)) (notB rfl) <| .op 0 rfl (pkFV rfl (bnotF c1) rfl) <| .op 0 rfl (mvV rfl) <| .op 0 (gT rfl rfl rfl (bnotF c2)) (faP fa77_1 rfl) <| .op 0 (gT rfl rfl rfl (bnotF c2)) (ldP rfl sz3 ag3 rfl) <| .op 0 (gT rfl rfl rfl (bnotF c2)) (faP fa28_2 rfl) <| .op 0 (gT rfl rfl rfl (bnotF c2)) (ldP rfl sz3 ag3 rfl) <| .callI (gT rfl rfl rfl (bnotF c2)) (callee_of rfl go53 rfl) (.pure rfl rfl (r11_in.D (g2_19 c1 c2))) <| .op 0 (gT rfl rfl rfl (bnotF c2)) (notB rfl) <| .op 0 rfl (pkFV rfl (bnotF c2) rfl) <| .op 0 rfl (mvV rfl) <| .no (gF rfl rfl rfl (bnotT (Bool.eq_false_iff.mpr c3))) <| .no (gF rfl rfl rfl (bnotT (Bool.eq_false_iff.mpr c3))) <| .no (gF rfl rfl rfl (bnotT (Bool.eq_false_iff.mpr c3))) <| .no (gF rfl rfl rfl (bnotT (Bool.eq_false_iff.mpr c3))) <| .op 0 rfl (pkTV rfl (bnotT (Bool.eq_false_iff.mpr c3)) rfl) <| .nilL _ ⟨.ptr rfl, .ptr rfl, cB rfl (mOrF (bnotF c1) (mOrF (bnotF c2) (mOrT (bnotT (Bool.eq_false_iff.mpr c3))))), trivial⟩)
      · exact (.op 0 rfl (faP fa77_0 rfl) <| .op 0 rfl (ldP rfl sz3 ag3 rfl) <| .op 0 rfl (faP fa28_1 rfl) <| .op 0 rfl (ldP rfl sz3 ag3 rfl) <| .callI rfl (callee_of rfl go53 rfl) (.pure rfl rfl (r11_in.D g2_4)) <| .op 0 rfl (notB rfl) <| .op 0 rfl (mvV rfl) <| .op 0 (gT rfl rfl rfl (bnotF c1)) (faP fa77_2 rfl) <| .op 0 (gT rfl rfl rfl (bnotF c1)) (ldP rfl sz3 ag3 rfl) <| .op 0 (gT rfl rfl rfl (bnotF c1)) (faP fa28_1 rfl) <| .op 0 (gT rfl rfl rfl (bnotF c1)) (ldP rfl sz3 ag3 rfl) <| .callI (gT rfl rfl rfl (bnotF c1)) (callee_of rfl go53 rfl) (.pure rfl rfl (r11_in.D (g2_11 c1))) <| .op 0 (gT rfl rfl rfl (bnotF c1)) (notB rfl) <| .op 0 rfl (pkFV rfl (bnotF c1) rfl) <| .op 0 rfl (mvV rfl) <| .no (gF rfl rfl rfl (bnotT (Bool.eq_false_iff.mpr c2))) <| .no (gF rfl rfl rfl (bnotT (Bool.eq_false_iff.mpr c2))) <| .no (gF rfl rfl rfl (bnotT (Bool.eq_false_iff.mpr c2))) <| .no (gF rfl rfl rfl (bnotT (Bool.eq_false_iff.mpr c2))) <| .no (gF rfl rfl rfl (bnotT (Bool.eq_false_iff.mpr c2))) <| .no (gF rfl rfl rfl (bnotT (Bool.eq_false_iff.mpr c2))) <| .op 0 rfl (pkTV rfl (bnotT (Bool.eq_false_iff.mpr c2)) rfl) <| .op 0 rfl (mvV rfl) <| .no (gF rfl rfl rfl rfl) <| .no (gF rfl rfl rfl rfl) <| .no (gF rfl rfl rfl rfl) <| .no (gF rfl rfl rfl rfl) <| .op 0 rfl (pkTV rfl rfl rfl) <| .nilL _ ⟨.ptr rfl, .ptr rfl, cB rfl (mOrF (bnotF c1) (mOrT (bnotT (Bool.eq_false_iff.mpr c2)))), trivial⟩)
    · exact (.op 0 rfl (faP fa77_0 rfl) <| .op 0 rfl (ldP rfl sz3 ag3 rfl) <| .op 0 rfl (faP fa28_1 rfl) <| .op 0 rfl (ldP rfl sz3 ag3 rfl) <| .callI rfl (callee_of rfl go53 rfl) (.pure rfl rfl (r11_in.D g2_4)) <| .op 0 rfl (notB rfl) <| .op 0 rfl (mvV rfl) <| .no (gF rfl rfl rfl (bnotT (Bool.eq_false_iff.mpr c1))) <| .no (gF rfl rfl rfl (bnotT (Bool.eq_false_iff.mpr c1))) <| .no (gF rfl rfl rfl (bnotT (Bool.eq_false_iff.mpr c1))) <| .no (gF rfl rfl rfl (bnotT (Bool.eq_false_iff.mpr c1))) <| .no (gF rfl rfl rfl (bnotT (Bool.eq_false_iff.mpr c1))) <| .no (gF rfl rfl rfl (bnotT (Bool.eq_false_iff.mpr c1))) <| .op 0 rfl (pkTV rfl (bnotT (Bool.eq_false_iff.mpr c1)) rfl) <| .op 0 rfl (mvV rfl) <| .no (gF rfl rfl rfl rfl) <| .no (gF rfl rfl rfl rfl) <| .no (gF rfl rfl rfl rfl) <| .no (gF rfl rfl rfl rfl) <| .no (gF rfl rfl rfl rfl) <| .no (gF rfl rfl rfl rfl) <| .op 0 rfl (pkTV rfl rfl rfl) <| .op 0 rfl (mvV rfl) <| .no (gF rfl rfl rfl rfl) <| .no (gF rfl rfl rfl rfl) <| .no (gF rfl rfl rfl rfl) <| .no (gF rfl rfl rfl rfl) <| .op 0 rfl (pkTV rfl rfl rfl) <| .nilL _ ⟨.ptr rfl, .ptr rfl, cB rfl (mOrT (bnotT (Bool.eq_false_iff.mpr c1))), trivial⟩)
  by_cases c4 : ((!t2_4) || ((!t2_11) || ((!t2_19) || (decide ((a1.W.length : Int) > 4096))))) = true
  · rw [if_pos c4] at h
    refine .condT rfl c4 ?_
    refine .seq ?_
    refine .reg0 rfl (.op 0 rfl (asV rfl) <| .nil0) ?_
    replace h := h.symm
    subst h
    refine .keepL [] [(4, .val (.bool false))] [] (by decide) (by decide) ⟨.free rfl rfl, trivial⟩ trivial ?_
    exact .ret rfl
  · rw [if_neg c4] at h
    refine .condF rfl (Bool.eq_false_iff.mpr c4) ?_
    refine .skip ?_
    refine .seq ?_
    refine .seq ?_
    refine .reg0 rfl (.op 0 rfl (asV rfl) <| .nil0) ?_
    refine .block ?_
    refine .keepL [0, 1] [(2, .ptr 0 1 6 0 0), (3, .ptr 1 1 10 0 0), (5, .val (.int .i64 0))] [⟨6, [(TPds.lit a0)], 0, none⟩, ⟨10, [(TRule.lit a1)], 0, none⟩] (by decide) (by decide) ⟨.ptr rfl, .ptr rfl, .free rfl rfl, trivial⟩ ⟨⟨_, rfl, bcBox (all2_free rfl)⟩, ⟨_, rfl, bcBox (all2_free rfl)⟩, trivial⟩ ?_
    obtain ⟨o1, hL1, h⟩ := h
    refine .loopB (r11_rule.b1 a0 a1) (fun x1 => listEnv [(2, .ptr 0 1 6 0 0), (3, .ptr 1 1 10 0 0), (5, .val (.int .i64 x1))]) (fun x1 => [⟨6, [(TPds.lit a0)], 0, none⟩, ⟨10, [(TRule.lit a1)], 0, none⟩]) (fun _ => listEnv []) (fun _ => []) hL1 (fun r_ => r = r_) ?_ ?_ ?_
    · rintro ⟨⟩ rfl
      try dsimp only [Fin.on] at h
      refine .seq ?_
      refine .reg0 rfl (.op 0 rfl (asV rfl) <| .nil0) ?_
      replace h := h.symm
      subst h
      refine .keepL [] [(4, .val (.bool true))] [] (by decide) (by decide) ⟨.free rfl rfl, trivial⟩ trivial ?_
      exact .ret rfl
    · rintro r_ rfl
      exact h
    · rintro x1 z1 h hn1 hx1 hr1
      dsimp only [r11_rule.b1] at h
      refine .seq ?_
      refine .seq ?_
      refine .reg0 rfl (.op 0 rfl (mvV rfl) <| .op 0 rfl (faP fa77_3 rfl) <| .op 0 rfl (ldP rfl sz29 ag29 rfl) <| .op 0 rfl (lnR (l := a1.W) sl29 rfl) <| .op 0 rfl (ltI rfl rfl) <| .nil0) ?_
      by_cases c9 : x1 < (a1.W.length : Int)
      · rw [if_pos c9] at h
        refine .condT rfl (decide_eq_true c9) ?_
        refine .skip ?_
        refine .seq ?_
        refine .block ?_
        refine .seq ?_
        obtain ⟨g14_3, h⟩ := h
        obtain ⟨t14_7, g14_7, h⟩ := h
        refine .reg1 (e1 := listEnv [(2, .ptr 0 1 6 0 0), (3, .ptr 1 1 10 0 0), (5, .val (.int .i64 x1)), (49, .val (.bool (!t14_7)))]) (H1 := [⟨6, [(TPds.lit a0)], 0, none⟩, ⟨10, [(TRule.lit a1)], 0, none⟩]) rfl ?_ ?_
        · exact .drawM [(8, 49, .val (.bool (!t14_7))), (7, 48, .val (.bool t14_7)), (6, 47, .val (.int .i64 a0.Symbols)), (5, 46, .ptr 0 1 6 0 4), (4, 45, .val (.int .i64 (rdl a1.W x1))), (3, 44, .cptr ((cInt .i64) (rdl a1.W x1)) 0), (2, 43, .val (.int .i64 x1)), (1, 42, .rows (a1.W.map (cInt .i64))), (0, 41, .ptr 1 1 10 0 3)] [] [[], [0], [], [1, 0, 2], [3, 1, 0, 2], [], [5], [4, 3, 1, 0, 2, 6, 5], [7, 4, 3, 1, 0, 2, 6, 5]] (by rfl) (by rfl) (by rfl) (by exact ⟨fun S hS hD hn => .one 0 hS hD hn rfl rfl (faP fa77_3 rfl) rfl rfl rfl, fun S hS hD hn => .one 0 hS hD hn rfl rfl (ldP rfl sz29 ag29 rfl) rfl rfl rfl, fun S hS hD hn => .one 0 hS hD hn rfl rfl (mvV rfl) rfl rfl rfl, fun S hS hD hn => .one 0 hS hD hn rfl rfl (ixR (l := a1.W) (lit := (cInt .i64)) sl29 rfl rfl (fun _ => rfl) g14_3.1 g14_3.2) rfl rfl rfl, fun S hS hD hn => .one 0 hS hD hn rfl rfl (ldC rfl sz3 ag3 rfl) rfl rfl rfl, fun S hS hD hn => .one 0 hS hD hn rfl rfl (faP fa28_2 rfl) rfl rfl rfl, fun S hS hD hn => .one 0 hS hD hn rfl rfl (ldP rfl sz3 ag3 rfl) rfl rfl rfl, fun S hS hD hn => .oneI hS hD hn rfl rfl (callee_of rfl go53 rfl) (.pure rfl rfl (r11_in.D g14_7)) rfl rfl rfl, fun S hS hD hn => .one 0 hS hD hn rfl rfl (notB rfl) rfl rfl rfl, trivial⟩) _ (by exact ⟨.ptr rfl, .ptr rfl, .free rfl rfl, .free rfl rfl, trivial⟩) (by rfl)
        by_cases c10 : t14_7 = true
        · rw [if_pos c10] at h
          refine .condF rfl (bnotF c10) ?_
          refine .skip ?_
          refine .inBlock ?_
          refine .reg0 rfl (.op 0 rfl (mvV rfl) <| .op 0 rfl (addI rfl rfl) <| .op 0 rfl (asV rfl) <| .nil0) ?_
          refine .keepL [0, 1] [(2, .ptr 0 1 6 0 0), (3, .ptr 1 1 10 0 0), (5, .val (.int .i64 (IntKind.i64.wrap (x1 + 1))))] [⟨6, [(TPds.lit a0)], 0, none⟩, ⟨10, [(TRule.lit a1)], 0, none⟩] (by decide) (by decide) ⟨.ptr rfl, .ptr rfl, .free rfl rfl, trivial⟩ ⟨⟨_, rfl, bcBox (all2_free rfl)⟩, ⟨_, rfl, bcBox (all2_free rfl)⟩, trivial⟩ ?_
          exact hn1 _ h
        · rw [if_neg c10] at h
          refine .condT rfl (bnotT (Bool.eq_false_iff.mpr c10)) ?_
          refine .seq ?_
          refine .reg0 rfl (.op 0 rfl (asV rfl) <| .nil0) ?_
          have q3 := hr1 _ h
          replace q3 := q3.symm
          subst q3
          refine .keepL [] [(4, .val (.bool false))] [] (by decide) (by decide) ⟨.free rfl rfl, trivial⟩ trivial ?_
          exact .ret rfl
      · rw [if_neg c9] at h
        refine .condF rfl (decide_eq_false c9) ?_
        refine .exit rfl ?_
        refine .keepL [] [] [] (by decide) (by decide) trivial trivial ?_
        exact hx1 _ h
end Go.RM.Try
