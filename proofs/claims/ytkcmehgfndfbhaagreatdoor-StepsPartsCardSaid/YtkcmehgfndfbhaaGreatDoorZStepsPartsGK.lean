/- GK, for the statement StepsParts: what it needs, no more. -/
import Derived.Test.YtkcmehgfndfbhaaGreatDoorZStepsPartsGJ
set_option linter.unusedVariables false
set_option maxRecDepth 8000
set_option maxHeartbeats 4000000
namespace Go.RM.Tryz
open Go.RM Go.Proofs
def r03_Extend.b1 (a0 : Int) (a1 : TFacts) (a2 : TFacts) : ((List Int) × Int) → Rnd (((List Int) × Int)) ((List Int)) (TFacts × Int) → Prop := fun (x2, x3) z1 => if x3 < a0 then (((InR x3 a1.Rows.length)) ∧ ∃ t13_8 : Int, (r03_made.f a2 (rdl a1.Rows x3) t13_8) ∧ ((Fits (x2.length + 1) 8)) ∧ z1 = .next ((x2 ++ [t13_8]), (IntKind.i64.wrap (x3 + 1)))) else (z1 = .exit x2)
def r03_Extend.f (a0 : Int) (a1 : TFacts) (a2 : TFacts) (r : TFacts × Int) : Prop :=
  ∃ t2_3 : Int, (r03_two.f a0 a1 a2 t2_3) ∧ if t2_3 = 0 then (∃ t4_3 : Int, (r03_made.f a2 a1.Gen t4_3) ∧ ∃ o1 : Fin ((List Int)) (TFacts × Int), Loop (r03_Extend.b1 a0 a1 a2) ([], 0) o1 ∧ o1.on (fun x4 => ∃ t15_1 : TFacts, (r03_canon.f (TFacts.mk t4_3 x4) t15_1) ∧ r = (t15_1, 0)) (fun r_ => r = r_)) else (r = ((TFacts.mk 0 []), t2_3))
abbrev GK_c0 : List PV := [u6 0, i6 0, i6 0]
abbrev GK_c1 : List PV := [u6 0, i6 2, i6 0]
abbrev GK_c2 : List PV := [bo false, i6 0, u6 0, nul, nul, nul]
abbrev GK_c3 : List PV := [bo true, i6 0, u6 0, nul, nul, nul]
abbrev GK_c4 : List PV := [bo false, i6 0, u6 0, .rows (([] : List Int).map (cInt .u64)), .rows (([] : List TCell).map TCell.cells), .rows (([] : List TWeight).map TWeight.cells)]
theorem r03_Extend.D {a0 a1 a2 r} (h : r03_Extend.f a0 a1 a2 r) : D Tryz.prog X (.callH 55 [.val (.int .i64 a0), .agg (TFacts.lit a1), .agg (TFacts.lit a2)] [] (.tuple [.agg (TFacts.lit r.1), .val (.int .i64 r.2)]) []) := by
  unfold r03_Extend.f at h
  refine .enter 43 0 fn55 rfl rfl rfl <| .seq <| .room 0 <| .room 0 <| .room 0 <| .reg0 rfl (.op 0 rfl (bxP (s := 2) (cs := (TFacts.lit a1)) rfl ⟨rfl, by decide, rfl⟩ rfl) <| .op 1 rfl (bxP (s := 2) (cs := (TFacts.lit a2)) rfl ⟨rfl, by decide, rfl⟩ rfl) <| .op 2 rfl (alP (s := 2) ze35 ⟨rfl, by decide, rfl⟩ rfl) <| .op 0 rfl (asV rfl) <| .nil0) <| .seq ?_
  obtain ⟨t2_3, g2_3, h⟩ := h
  refine .reg0 rfl (.m rfl <| .o (ldG rfl sz35 ag35 rfl) <| .o (ldG rfl sz35 ag35 rfl) <| .c rfl go83 rfl rfl rfl (r03_two.D g2_3) <| .a rfl <| .nil0) <| .seq <| .seq <| .reg0 rfl (.op 0 rfl (mvV rfl) <| .op 0 rfl (neI rfl rfl) <| .nil0) ?_
  by_cases c1 : t2_3 = 0
  · rw [if_pos c1] at h
    refine .condF rfl (nf c1) <| .skip <| .seq ?_
    obtain ⟨t4_3, g4_3, h⟩ := h
    refine .room 0 <| .reg0 rfl (.op 0 rfl (ldG rfl sz35 ag35 rfl) <| .op 0 rfl (faP fa35_0 rfl) <| .op 0 rfl (ldP rfl sz32 ag32 rfl) <| .callI rfl (callee_of rfl go84 rfl) (.pure rfl rfl (r03_made.D g4_3)) <| .op 0 rfl (bldS (cs := [u6 t4_3, nul]) ze35 pl35 rfl rfl) <| .op 3 rfl (alP (s := 2) ze35 ⟨rfl, by decide, rfl⟩ rfl) <| .op 0 rfl (stB (cs0 := [u6 0, nul]) (cs := [u6 t4_3, nul]) (cs1 := [u6 t4_3, nul]) rfl rfl sz35 rfl ⟨Nat.le_of_ble_eq_true rfl, rfl⟩ rfl) <| .nil0) ?_
    refine .seq <| .seq <| .reg0 rfl (.op 0 rfl (asV rfl) <| .nil0) <| .block <| .room 1 <| .keepL [0, 1, 2, 3, 4] [(0, i6 a0), (4, .ptr 0 1 2 0 0), (5, .ptr 1 1 2 0 0), (6, .ptr 2 1 2 0 0), (9, .ptr 3 1 2 0 0), (10, i6 0)] [⟨2, [(TFacts.lit a1)], 0, none⟩, ⟨2, [(TFacts.lit a2)], 0, none⟩, ⟨2, [[u6 0, nul]], 0, none⟩, ⟨2, [[u6 t4_3, .own 4 0]], 0, none⟩, ⟨1, [].map (cInt .u64), 0, none⟩] (by decide) (by decide) ⟨.free rfl rfl, .ptr rfl, .ptr rfl, .ptr rfl, .ptr rfl, .free rfl rfl, trivial⟩ ⟨⟨_, rfl, bcBox (all2_free rfl)⟩, ⟨_, rfl, bcBox (all2_free rfl)⟩, ⟨_, rfl, bcBox (all2_free rfl)⟩, ⟨_, rfl, bcBox (.cons (.free rfl rfl) <| .cons (.nilOwn) <| .nil)⟩, ⟨_, rfl, (bcRow (l := []) sl33 (Nat.le_refl _) rfl)⟩, trivial⟩ ?_
    obtain ⟨o1, hL1, h⟩ := h
    refine .loopB (r03_Extend.b1 a0 a1 a2) (fun (x2, x3) => listEnv [(0, i6 a0), (4, .ptr 0 1 2 0 0), (5, .ptr 1 1 2 0 0), (6, .ptr 2 1 2 0 0), (9, .ptr 3 1 2 0 0), (10, i6 x3)]) (fun (x2, x3) => [⟨2, [(TFacts.lit a1)], 0, none⟩, ⟨2, [(TFacts.lit a2)], 0, none⟩, ⟨2, [[u6 0, nul]], 0, none⟩, ⟨2, [[u6 t4_3, .own 4 x2.length]], 0, none⟩, ⟨1, x2.map (cInt .u64), 0, none⟩]) (fun x4 => listEnv [(6, .ptr 0 1 2 0 0), (9, .ptr 1 1 2 0 0)]) (fun x4 => [⟨2, [[u6 0, nul]], 0, none⟩, ⟨2, [[u6 t4_3, .own 2 x4.length]], 0, none⟩, ⟨1, x4.map (cInt .u64), 0, none⟩]) hL1 (fun r_ => r = r_) ?_ ?_ ?_
    · rintro x4 rfl
      try dsimp only [Fin.on] at h
      refine .seq ?_
      obtain ⟨t15_1, g15_1, h⟩ := h
      refine .reg0 rfl (.o (ldG rfl sz35 ag35 rfl) <| .callI rfl (callee_of rfl go85 rfl) (.lendC (args' := [.agg [u6 t4_3, .rows (x4.map (cInt .u64))]])  [2] true (.cons (cAgg (.cons (.free rfl rfl) <| .cons (cFixO (l := x4) sl33 rfl rfl rfl rfl) <| .nil)) <| .nil) (by decide) rfl rfl rfl rfl (r03_canon.D g15_1)) <| .o (stB (cs0 := [u6 0, nul]) (cs := (TFacts.lit t15_1)) (cs1 := (TFacts.lit t15_1)) rfl rfl sz35 rfl ⟨Nat.le_of_ble_eq_true rfl, rfl⟩ rfl) <| .a rfl <| .nil0) ?_
      replace h := h.symm
      subst h
      refine .k [(6, .cptr (TFacts.lit t15_1) 0), (7, i6 0)] ⟨cFixP rfl rfl (.cons (.free rfl rfl) <| .cons (.free rfl rfl) <| .nil), .free rfl rfl, trivial⟩ ?_
      exact .ret rfl
    · rintro r_ rfl
      exact h
    · rintro ⟨x2, x3⟩ z1 h hn1 hx1 hr1
      dsimp only [r03_Extend.b1] at h
      refine .seq <| .seq <| .reg0 rfl (.op 0 rfl (mvV rfl) <| .op 0 rfl (mvV rfl) <| .op 0 rfl (ltI rfl rfl) <| .nil0) ?_
      by_cases c4 : x3 < a0
      · rw [if_pos c4] at h
        refine .condT rfl (dt c4) <| .skip <| .seq <| .block ?_
        obtain ⟨g13_6, h⟩ := h
        obtain ⟨t13_8, g13_8, h⟩ := h
        obtain ⟨g13_10, h⟩ := h
        refine .room 0 <| .room 0 ?_
        refine .reg1 (e1 := listEnv [(0, i6 a0), (4, .ptr 0 1 2 0 0), (5, .ptr 1 1 2 0 0), (6, .ptr 2 1 2 0 0), (9, .ptr 3 1 2 0 0), (10, i6 x3)]) (H1 := [⟨2, [(TFacts.lit a1)], 0, none⟩, ⟨2, [(TFacts.lit a2)], 0, none⟩, ⟨2, [[u6 0, nul]], 0, none⟩, ⟨2, [[u6 t4_3, .own 4 ((x2 ++ [t13_8]).length)]], 0, none⟩, ⟨1, (x2 ++ [t13_8]).map (cInt .u64), 0, none⟩, ⟨1, [t13_8].map (cInt .u64), 0, none⟩, Blk.hole]) rfl ?_ ?_
        · exact .drawM [(11, 40, .ptr 3 1 2 0 1), (10, 39, .own 4 ((x2 ++ [t13_8]).length)), (9, 38, .own 5 ([t13_8].length)), (8, 37, u6 t13_8), (7, 36, u6 (rdl a1.Rows x3)), (6, 35, .cptr ((cInt .u64) (rdl a1.Rows x3)) 0), (5, 34, i6 x3), (4, 33, .rows (a1.Rows.map (cInt .u64))), (3, 32, .ptr 0 1 2 0 1), (2, 31, .agg (TFacts.lit a2)), (1, 30, .own 4 x2.length), (0, 29, .ptr 3 1 2 0 1)] [(12, 3, ⟨2, [[u6 t4_3, .own 4 ((x2 ++ [t13_8]).length)]], 0, none⟩), (10, 4, ⟨1, (x2 ++ [t13_8]).map (cInt .u64), 0, none⟩), (9, 5, ⟨1, [t13_8].map (cInt .u64), 0, none⟩)] [[], [0], [], [], [3], [], [4, 3, 5], [6, 4, 3, 5], [2, 7, 6, 4, 3, 5], [8, 2, 7, 6, 4, 3, 5], [1, 0, 9, 8, 2, 7, 6, 4, 3, 5], [0, 1, 2, 3, 4, 5, 6, 7, 8, 9, 10], [11, 0, 1, 2, 3, 4, 5, 6, 7, 8, 9, 10]] (by rfl) (by rfl) (by rfl) (by exact ⟨oP (fun _ => faP fa35_1 rfl) rfl, oP (fun _ => ldP rfl sz33 ag33 rfl) rfl, oP (fun _ => ldG rfl sz35 ag35 rfl) rfl, oP (fun _ => faP fa35_1 rfl) rfl, oP (fun _ => ldP rfl sz33 ag33 rfl) rfl, oP (fun _ => mvV rfl) rfl, oP (fun _ => ixR (l := a1.Rows) (lit := (cInt .u64)) sl33 rfl rfl (fun _ => rfl) g13_6.1 g13_6.2) rfl, oP (fun _ => ldC rfl sz32 ag32 rfl) rfl, fun S hS hD hn => .oneI hS hD hn rfl rfl (callee_of rfl go84 rfl) (.pure rfl rfl (r03_made.D g13_8)) rfl rfl rfl, oW 5 (fun _ => bldL (s := 1) (cs := [u6 t13_8]) un33 sz32 ze32 ⟨by decide, rfl, by decide⟩ rfl rfl rfl rfl) rfl fun _ => rfl, oW 0 (fun _ => ap1 (l := x2) t13_8 sl33 rfl rfl rfl (Nat.zero_le _) (elems_own (l := [t13_8]) rfl rfl) g13_10) rfl fun _ => rfl, oP (fun _ => faP fa35_1 rfl) rfl, fun S hS hD hn => .one0 0 rfl rfl (stB (cs0 := [u6 t4_3, .own 4 x2.length]) (cs := [.own 4 ((x2 ++ [t13_8]).length)]) (cs1 := [u6 t4_3, .own 4 ((x2 ++ [t13_8]).length)]) rfl rfl sz33 rfl ⟨Nat.le_of_ble_eq_true rfl, rfl⟩ rfl) (drawE_other _ _ _ _ rfl) rfl, trivial⟩) _ (by exact ⟨.free rfl rfl, .ptr rfl, .ptr rfl, .ptr rfl, .ptr rfl, .free rfl rfl, trivial⟩) (by rfl)
        refine .inBlock <| .reg0 rfl (.op 0 rfl (mvV rfl) <| .op 0 rfl (addI rfl rfl) <| .op 0 rfl (asV rfl) <| .nil0) <| .keepL [0, 1, 2, 3, 4] [(0, i6 a0), (4, .ptr 0 1 2 0 0), (5, .ptr 1 1 2 0 0), (6, .ptr 2 1 2 0 0), (9, .ptr 3 1 2 0 0), (10, i6 (IntKind.i64.wrap (x3 + 1)))] [⟨2, [(TFacts.lit a1)], 0, none⟩, ⟨2, [(TFacts.lit a2)], 0, none⟩, ⟨2, [[u6 0, nul]], 0, none⟩, ⟨2, [[u6 t4_3, .own 4 ((x2 ++ [t13_8]).length)]], 0, none⟩, ⟨1, (x2 ++ [t13_8]).map (cInt .u64), 0, none⟩] (by decide) (by decide) ⟨.free rfl rfl, .ptr rfl, .ptr rfl, .ptr rfl, .ptr rfl, .free rfl rfl, trivial⟩ ⟨⟨_, rfl, bcBox (all2_free rfl)⟩, ⟨_, rfl, bcBox (all2_free rfl)⟩, ⟨_, rfl, bcBox (all2_free rfl)⟩, ⟨_, rfl, bcBox (.cons (.free rfl rfl) <| .cons (.own rfl) <| .nil)⟩, ⟨_, rfl, bcRow (l := (x2 ++ [t13_8])) sl33 (Nat.le_refl _) rfl⟩, trivial⟩ ?_
        exact hn1 _ h
      · rw [if_neg c4] at h
        refine .condF rfl (df c4) <| .exit rfl <| .keepL [2, 3, 4] [(6, .ptr 0 1 2 0 0), (9, .ptr 1 1 2 0 0)] [⟨2, [[u6 0, nul]], 0, none⟩, ⟨2, [[u6 t4_3, .own 2 x2.length]], 0, none⟩, ⟨1, x2.map (cInt .u64), 0, none⟩] (by decide) (by decide) ⟨.ptr rfl, .ptr rfl, trivial⟩ ⟨⟨_, rfl, bcBox (all2_free rfl)⟩, ⟨_, rfl, bcBox (.cons (.free rfl rfl) <| .cons (.own rfl) <| .nil)⟩, ⟨_, rfl, bcRow (l := x2) sl33 (Nat.le_refl _) rfl⟩, trivial⟩ ?_
        exact hx1 _ h
  · rw [if_neg c1] at h
    refine .condT rfl (nt c1) <| .seq <| .reg0 rfl (.op 0 rfl (bldS (cs := [u6 0, nul]) ze35 pl35 rfl rfl) <| .op 0 rfl (mvV rfl) <| .op 0 rfl (stB (cs0 := [u6 0, nul]) (cs := [u6 0, nul]) (cs1 := [u6 0, nul]) rfl rfl sz35 rfl ⟨Nat.le_of_ble_eq_true rfl, rfl⟩ rfl) <| .op 0 rfl (asV rfl) <| .nil0) ?_
    replace h := h.symm
    subst h
    refine .k [(6, .cptr [u6 0, .rows (([] : List Int).map (cInt .u64))] 0), (7, i6 t2_3)] ⟨cFixP rfl rfl (.cons (.free rfl rfl) <| .cons (.nil) <| .nil), .free rfl rfl, trivial⟩ ?_
    exact .ret rfl
def r05_Joined.f (a0 : TCell) (a1 : TCell) (r : TCell) : Prop :=
  if ((a0.Kind == 2) || (a1.Kind == 2)) = true then (r = (TCell.mk 0 2 0)) else (if a0.Kind = 0 then (r = (TCell.mk (bitOp .or .u64 a0.From a1.From) a1.Kind a1.K)) else (if ((a1.Kind == 1) && (a0.K != a1.K)) = true then (r = (TCell.mk 0 2 0)) else (r = (TCell.mk (bitOp .or .u64 a0.From a1.From) a0.Kind a0.K))))
theorem r05_Joined.D {a0 a1 r} (h : r05_Joined.f a0 a1 r) : D Tryz.prog X (.callH 87 [.agg (TCell.lit a0), .agg (TCell.lit a1)] [] (.agg (TCell.lit r)) []) := by
  unfold r05_Joined.f at h
  refine .enter 48 0 fn87 rfl rfl rfl <| .seq <| .room 0 <| .room 0 <| .room 0 <| .reg0 rfl (.op 0 rfl (bxP (s := 3) (cs := (TCell.lit a0)) rfl ⟨rfl, by decide, rfl⟩ rfl) <| .op 1 rfl (bxP (s := 3) (cs := (TCell.lit a1)) rfl ⟨rfl, by decide, rfl⟩ rfl) <| .op 2 rfl (alP (s := 3) ze81 ⟨rfl, by decide, rfl⟩ rfl) <| .nil0) <| .seq <| .seq ?_
  refine .reg0 (e1 := listEnv [(2, .ptr 0 1 3 0 0), (3, .ptr 1 1 3 0 0), (4, .ptr 2 1 3 0 0), (13, bo ((a0.Kind == 2) || (a1.Kind == 2)))]) (H1 := [⟨3, [(TCell.lit a0)], 0, none⟩, ⟨3, [(TCell.lit a1)], 0, none⟩, ⟨3, [GK_c0], 0, none⟩]) rfl ?_ ?_
  · refine .o (faP fa81_1 rfl) <| .o (ldP rfl sz79 ag79 rfl) <| .o (eqI rfl rfl) <| .m rfl <| ?_
    by_cases c1 : a0.Kind = 2
    · exact (.n rfl (bt c1) <| .n rfl (bt c1) <| .n rfl (bt c1) <| .o (pkTV rfl (bt c1) rfl) <| .nilL _ ⟨.ptr rfl, .ptr rfl, .ptr rfl, cB rfl (mOrT (bt c1)), trivial⟩)
    · exact (.g rfl (bn c1) (faP fa81_1 rfl) <| .g rfl (bn c1) (ldP rfl sz79 ag79 rfl) <| .g rfl (bn c1) (eqI rfl rfl) <| .o (pkFV rfl (bn c1) rfl) <| .nilL _ ⟨.ptr rfl, .ptr rfl, .ptr rfl, cB rfl (mOrF (bn c1) rfl), trivial⟩)
  by_cases c2 : ((a0.Kind == 2) || (a1.Kind == 2)) = true
  · rw [if_pos c2] at h
    refine .condT rfl c2 <| .seq <| .reg0 rfl (.op 0 rfl (bldS (cs := GK_c1) ze81 pl81 rfl rfl) <| .op 0 rfl (stB (cs0 := GK_c0) (cs := GK_c1) (cs1 := GK_c1) rfl rfl sz81 rfl ⟨Nat.le_of_ble_eq_true rfl, rfl⟩ rfl) <| .nil0) ?_
    replace h := h.symm
    subst h
    refine .k [(4, .cptr GK_c1 0)] ⟨cFixP rfl rfl (.cons (.free rfl rfl) <| .cons (.free rfl rfl) <| .cons (.free rfl rfl) <| .nil), trivial⟩ ?_
    exact .ret rfl
  · rw [if_neg c2] at h
    refine .condF rfl (nb c2) <| .skip <| .seq <| .room 0 <| .reg0 rfl (.op 0 rfl (faP fa81_0 rfl) <| .op 0 rfl (ldP rfl sz32 ag32 rfl) <| .op 0 rfl (faP fa81_0 rfl) <| .op 0 rfl (ldP rfl sz32 ag32 rfl) <| .op 0 rfl (orI rfl rfl) <| .op 0 rfl (faP fa81_1 rfl) <| .op 0 rfl (ldP rfl sz79 ag79 rfl) <| .op 0 rfl (faP fa81_2 rfl) <| .op 0 rfl (ldP rfl sz2 ag2 rfl) <| .op 0 rfl (bldS (cs := [u6 (bitOp .or .u64 a0.From a1.From), i6 a0.Kind, i6 a0.K]) ze81 pl81 rfl rfl) <| .op 3 rfl (alP (s := 3) ze81 ⟨rfl, by decide, rfl⟩ rfl) <| .op 0 rfl (stB (cs0 := GK_c0) (cs := [u6 (bitOp .or .u64 a0.From a1.From), i6 a0.Kind, i6 a0.K]) (cs1 := [u6 (bitOp .or .u64 a0.From a1.From), i6 a0.Kind, i6 a0.K]) rfl rfl sz81 rfl ⟨Nat.le_of_ble_eq_true rfl, rfl⟩ rfl) <| .nil0) ?_
    refine .seq <| .block <| .seq <| .reg0 rfl (.op 0 rfl (faP fa81_1 rfl) <| .op 0 rfl (ldP rfl sz79 ag79 rfl) <| .op 0 rfl (eqI rfl rfl) <| .op 0 rfl (asV rfl) <| .nil0) ?_
    by_cases c3 : a0.Kind = 0
    · rw [if_pos c3] at h
      refine .condT rfl (bt c3) ?_
      refine .reg1 (e1 := listEnv [(4, .ptr 2 1 3 0 0), (5, .ptr 3 1 3 0 0)]) (H1 := [⟨3, [(TCell.lit a0)], 0, none⟩, ⟨3, [(TCell.lit a1)], 0, none⟩, ⟨3, [GK_c0], 0, none⟩, ⟨3, [[u6 (bitOp .or .u64 a0.From a1.From), i6 a1.Kind, i6 a1.K]], 0, none⟩]) rfl ?_ ?_
      · exact .drawM [(6, 34, .ptr 3 1 3 0 2), (4, 33, .ptr 3 1 3 0 1), (3, 32, i6 a1.K), (2, 31, .ptr 1 1 3 0 2), (1, 30, i6 a1.Kind), (0, 29, .ptr 1 1 3 0 1)] [(7, 3, ⟨3, [[u6 (bitOp .or .u64 a0.From a1.From), i6 a1.Kind, i6 a1.K]], 0, none⟩), (5, 3, ⟨3, [[u6 (bitOp .or .u64 a0.From a1.From), i6 a1.Kind, i6 a0.K]], 0, none⟩)] [[], [0], [], [2], [0, 1], [4, 0, 1], [0, 1, 2, 3, 4, 5], [6, 0, 1, 2, 3, 4, 5]] (by rfl) (by rfl) (by rfl) (by exact ⟨oP (fun _ => faP fa81_1 rfl) rfl, oP (fun _ => ldP rfl sz79 ag79 rfl) rfl, oP (fun _ => faP fa81_2 rfl) rfl, oP (fun _ => ldP rfl sz2 ag2 rfl) rfl, oP (fun _ => faP fa81_1 rfl) rfl, fun S hS hD hn => .one0 0 rfl rfl (stB (cs0 := [u6 (bitOp .or .u64 a0.From a1.From), i6 a0.Kind, i6 a0.K]) (cs := [i6 a1.Kind]) (cs1 := [u6 (bitOp .or .u64 a0.From a1.From), i6 a1.Kind, i6 a0.K]) rfl rfl sz79 rfl ⟨Nat.le_of_ble_eq_true rfl, rfl⟩ rfl) (drawE_other _ _ _ _ rfl) rfl, oP (fun _ => faP fa81_2 rfl) rfl, fun S hS hD hn => .one0 0 rfl rfl (stB (cs0 := [u6 (bitOp .or .u64 a0.From a1.From), i6 a1.Kind, i6 a0.K]) (cs := [i6 a1.K]) (cs1 := [u6 (bitOp .or .u64 a0.From a1.From), i6 a1.Kind, i6 a1.K]) rfl rfl sz2 rfl ⟨Nat.le_of_ble_eq_true rfl, rfl⟩ rfl) (drawE_other _ _ _ _ rfl) rfl, trivial⟩) _ (by exact ⟨.ptr rfl, .ptr rfl, trivial⟩) (by rfl)
      refine .inBlock <| .seq <| .reg0 rfl (.op 0 rfl (ldG rfl sz81 ag81 rfl) <| .op 0 rfl (stB (cs0 := GK_c0) (cs := [u6 (bitOp .or .u64 a0.From a1.From), i6 a1.Kind, i6 a1.K]) (cs1 := [u6 (bitOp .or .u64 a0.From a1.From), i6 a1.Kind, i6 a1.K]) rfl rfl sz81 rfl ⟨Nat.le_of_ble_eq_true rfl, rfl⟩ rfl) <| .nil0) ?_
      replace h := h.symm
      subst h
      refine .k [(4, .cptr [u6 (bitOp .or .u64 a0.From a1.From), i6 a1.Kind, i6 a1.K] 0)] ⟨cFixP rfl rfl (.cons (.free rfl rfl) <| .cons (.free rfl rfl) <| .cons (.free rfl rfl) <| .nil), trivial⟩ ?_
      exact .ret rfl
    · rw [if_neg c3] at h
      refine .condF rfl (bn c3) <| .seq ?_
      refine .reg0 (e1 := listEnv [(4, .ptr 2 1 3 0 0), (5, .ptr 3 1 3 0 0), (35, bo ((a1.Kind == 1) && (a0.K != a1.K)))]) (H1 := [⟨3, [(TCell.lit a0)], 0, none⟩, ⟨3, [(TCell.lit a1)], 0, none⟩, ⟨3, [GK_c0], 0, none⟩, ⟨3, [[u6 (bitOp .or .u64 a0.From a1.From), i6 a0.Kind, i6 a0.K]], 0, none⟩]) rfl ?_ ?_
      · refine .o (faP fa81_1 rfl) <| .o (ldP rfl sz79 ag79 rfl) <| .o (eqI rfl rfl) <| .m rfl <| ?_
        by_cases c4 : a1.Kind = 1
        · exact (.g rfl (bt c4) (faP fa81_2 rfl) <| .g rfl (bt c4) (ldP rfl sz2 ag2 rfl) <| .g rfl (bt c4) (faP fa81_2 rfl) <| .g rfl (bt c4) (ldP rfl sz2 ag2 rfl) <| .g rfl (bt c4) (neI rfl rfl) <| .o (pkTV rfl (bt c4) rfl) <| .a rfl <| .nilL _ ⟨.ptr rfl, .ptr rfl, cB rfl (mAndT (bt c4) rfl), trivial⟩)
        · exact (.n rfl (bn c4) <| .n rfl (bn c4) <| .n rfl (bn c4) <| .n rfl (bn c4) <| .n rfl (bn c4) <| .o (pkFV rfl (bn c4) rfl) <| .a rfl <| .nilL _ ⟨.ptr rfl, .ptr rfl, cB rfl (mAndF (bn c4)), trivial⟩)
      by_cases c5 : ((a1.Kind == 1) && (a0.K != a1.K)) = true
      · rw [if_pos c5] at h
        refine .condT rfl c5 <| .seq <| .reg0 rfl (.op 0 rfl (bldS (cs := GK_c1) ze81 pl81 rfl rfl) <| .op 0 rfl (stB (cs0 := GK_c0) (cs := GK_c1) (cs1 := GK_c1) rfl rfl sz81 rfl ⟨Nat.le_of_ble_eq_true rfl, rfl⟩ rfl) <| .nil0) ?_
        replace h := h.symm
        subst h
        refine .k [(4, .cptr GK_c1 0)] ⟨cFixP rfl rfl (.cons (.free rfl rfl) <| .cons (.free rfl rfl) <| .cons (.free rfl rfl) <| .nil), trivial⟩ ?_
        exact .ret rfl
      · rw [if_neg c5] at h
        refine .condF rfl (nb c5) <| .skip <| .inBlock <| .seq <| .reg0 rfl (.op 0 rfl (ldG rfl sz81 ag81 rfl) <| .op 0 rfl (stB (cs0 := GK_c0) (cs := [u6 (bitOp .or .u64 a0.From a1.From), i6 a0.Kind, i6 a0.K]) (cs1 := [u6 (bitOp .or .u64 a0.From a1.From), i6 a0.Kind, i6 a0.K]) rfl rfl sz81 rfl ⟨Nat.le_of_ble_eq_true rfl, rfl⟩ rfl) <| .nil0) ?_
        replace h := h.symm
        subst h
        refine .k [(4, .cptr [u6 (bitOp .or .u64 a0.From a1.From), i6 a0.Kind, i6 a0.K] 0)] ⟨cFixP rfl rfl (.cons (.free rfl rfl) <| .cons (.free rfl rfl) <| .cons (.free rfl rfl) <| .nil), trivial⟩ ?_
        exact .ret rfl
def r05_behind.j1 (x10 : Int) : (Int × Int × Int) → (Rnd ((Int × Int × Int × Int)) ((Int × Int × Int)) TCell) → Prop := fun (x23, x24, x25) z1 => z1 = .next (x23, x24, x25, (IntKind.i64.wrap (x10 + 1)))
def r05_behind.b1 (a0 : List TCell) (a1 : TCell) : (Int × Int × Int × Int) → Rnd ((Int × Int × Int × Int)) ((Int × Int × Int)) TCell → Prop := fun (x7, x8, x9, x10) z1 => if x10 < (a0.length : Int) then (∃ t24_3 : Bool, (r01_Has.f a1.From x10 t24_3) ∧ if t24_3 = true then (((InR x10 a0.length)) ∧ ∃ t27_5 : TCell, (r05_Joined.f (TCell.mk x7 x8 x9) (rdl a0 x10) t27_5) ∧ r05_behind.j1 x10 (t27_5.From, t27_5.Kind, t27_5.K) z1) else (r05_behind.j1 x10 (x7, x8, x9) z1)) else (z1 = .exit (x7, x8, x9))
def r05_behind.f (a0 : List TCell) (a1 : TCell) (r : TCell) : Prop :=
  ∃ o1 : Fin ((Int × Int × Int)) TCell, Loop (r05_behind.b1 a0 a1) (0, a1.Kind, a1.K, 0) o1 ∧ o1.on (fun (x17, x18, x19) => r = (TCell.mk x17 x18 x19)) (fun r_ => r = r_)
theorem r05_behind.D {a0 a1 r} (h : r05_behind.f a0 a1 r) : D Tryz.prog X (.callH 56 [.rows (a0.map TCell.cells), .agg (TCell.lit a1)] [] (.agg (TCell.lit r)) []) := by
  unfold r05_behind.f at h
  refine .enter 29 0 fn56 rfl rfl rfl <| .seq <| .room 0 <| .room 0 <| .reg0 rfl (.op 0 rfl (bxP (s := 3) (cs := (TCell.lit a1)) rfl ⟨rfl, by decide, rfl⟩ rfl) <| .op 1 rfl (alP (s := 3) ze81 ⟨rfl, by decide, rfl⟩ rfl) <| .nil0) <| .seq <| .room 0 <| .reg0 rfl (.op 0 rfl (faP fa81_1 rfl) <| .op 0 rfl (ldP rfl sz79 ag79 rfl) <| .op 0 rfl (faP fa81_2 rfl) <| .op 0 rfl (ldP rfl sz2 ag2 rfl) <| .op 0 rfl (bldS (cs := [u6 0, i6 a1.Kind, i6 a1.K]) ze81 pl81 rfl rfl) <| .op 2 rfl (alP (s := 3) ze81 ⟨rfl, by decide, rfl⟩ rfl) <| .op 0 rfl (stB (cs0 := GK_c0) (cs := [u6 0, i6 a1.Kind, i6 a1.K]) (cs1 := [u6 0, i6 a1.Kind, i6 a1.K]) rfl rfl sz81 rfl ⟨Nat.le_of_ble_eq_true rfl, rfl⟩ rfl) <| .nil0) ?_
  refine .seq <| .seq <| .reg0 rfl (.op 0 rfl (asV rfl) <| .nil0) <| .block <| .keepL [0, 1, 2] [(0, .rows (a0.map TCell.cells)), (3, .ptr 0 1 3 0 0), (4, .ptr 1 1 3 0 0), (5, .ptr 2 1 3 0 0), (6, i6 0)] [⟨3, [(TCell.lit a1)], 0, none⟩, ⟨3, [GK_c0], 0, none⟩, ⟨3, [[u6 0, i6 a1.Kind, i6 a1.K]], 0, none⟩] (by decide) (by decide) ⟨.free rfl rfl, .ptr rfl, .ptr rfl, .ptr rfl, .free rfl rfl, trivial⟩ ⟨⟨_, rfl, bcBox (all2_free rfl)⟩, ⟨_, rfl, bcBox (all2_free rfl)⟩, ⟨_, rfl, bcBox (all2_free rfl)⟩, trivial⟩ ?_
  obtain ⟨o1, hL1, h⟩ := h
  refine .loopB (r05_behind.b1 a0 a1) (fun (x7, x8, x9, x10) => listEnv [(0, .rows (a0.map TCell.cells)), (3, .ptr 0 1 3 0 0), (4, .ptr 1 1 3 0 0), (5, .ptr 2 1 3 0 0), (6, i6 x10)]) (fun (x7, x8, x9, x10) => [⟨3, [(TCell.lit a1)], 0, none⟩, ⟨3, [GK_c0], 0, none⟩, ⟨3, [[u6 x7, i6 x8, i6 x9]], 0, none⟩]) (fun (x17, x18, x19) => listEnv [(4, .ptr 0 1 3 0 0), (5, .ptr 1 1 3 0 0)]) (fun (x17, x18, x19) => [⟨3, [GK_c0], 0, none⟩, ⟨3, [[u6 x17, i6 x18, i6 x19]], 0, none⟩]) hL1 (fun r_ => r = r_) ?_ ?_ ?_
  · rintro ⟨x17, x18, x19⟩ rfl
    try dsimp only [Fin.on] at h
    refine .seq <| .reg0 rfl (.op 0 rfl (ldG rfl sz81 ag81 rfl) <| .op 0 rfl (stB (cs0 := GK_c0) (cs := [u6 x17, i6 x18, i6 x19]) (cs1 := [u6 x17, i6 x18, i6 x19]) rfl rfl sz81 rfl ⟨Nat.le_of_ble_eq_true rfl, rfl⟩ rfl) <| .nil0) ?_
    replace h := h.symm
    subst h
    refine .k [(4, .cptr [u6 x17, i6 x18, i6 x19] 0)] ⟨cFixP rfl rfl (.cons (.free rfl rfl) <| .cons (.free rfl rfl) <| .cons (.free rfl rfl) <| .nil), trivial⟩ ?_
    exact .ret rfl
  · rintro r_ rfl
    exact h
  · rintro ⟨x7, x8, x9, x10⟩ z1 h hn1 hx1 hr1
    dsimp only [r05_behind.b1] at h
    refine .seq <| .seq <| .reg0 rfl (.op 0 rfl (mvV rfl) <| .op 0 rfl (mvR rfl) <| .op 0 rfl (lnR (l := a0) sl36 rfl) <| .op 0 rfl (ltI rfl rfl) <| .nil0) ?_
    by_cases c11 : x10 < (a0.length : Int)
    · rw [if_pos c11] at h
      refine .condT rfl (dt c11) <| .skip <| .seq <| .block <| .seq ?_
      obtain ⟨t24_3, g24_3, h⟩ := h
      refine .reg0 rfl (.o (faP fa81_0 rfl) <| .o (ldP rfl sz32 ag32 rfl) <| .m rfl <| .c rfl go86 rfl rfl rfl (r01_Has.D g24_3) <| .nil0) ?_
      refine .consJ (fun s_ => r05_behind.j1 x10 s_ z1) (fun (x23, x24, x25) => listEnv [(0, .rows (a0.map TCell.cells)), (3, .ptr 0 1 3 0 0), (4, .ptr 1 1 3 0 0), (5, .ptr 2 1 3 0 0), (6, i6 x10)]) (fun (x23, x24, x25) => [⟨3, [(TCell.lit a1)], 0, none⟩, ⟨3, [GK_c0], 0, none⟩, ⟨3, [[u6 x23, i6 x24, i6 x25]], 0, none⟩]) ?_ fun hJ1 => ?_
      · rintro ⟨x23, x24, x25⟩ h
        unfold r05_behind.j1 at h
        try dsimp only at h
        refine .inBlock <| .reg0 rfl (.op 0 rfl (mvV rfl) <| .op 0 rfl (addI rfl rfl) <| .op 0 rfl (asV rfl) <| .nil0) <| .keepL [0, 1, 2] [(0, .rows (a0.map TCell.cells)), (3, .ptr 0 1 3 0 0), (4, .ptr 1 1 3 0 0), (5, .ptr 2 1 3 0 0), (6, i6 (IntKind.i64.wrap (x10 + 1)))] [⟨3, [(TCell.lit a1)], 0, none⟩, ⟨3, [GK_c0], 0, none⟩, ⟨3, [[u6 x23, i6 x24, i6 x25]], 0, none⟩] (by decide) (by decide) ⟨.free rfl rfl, .ptr rfl, .ptr rfl, .ptr rfl, .free rfl rfl, trivial⟩ ⟨⟨_, rfl, bcBox (all2_free rfl)⟩, ⟨_, rfl, bcBox (all2_free rfl)⟩, ⟨_, rfl, bcBox (all2_free rfl)⟩, trivial⟩ ?_
        exact hn1 _ h
      · by_cases c15 : t24_3 = true
        · rw [if_pos c15] at h
          refine .condT rfl c15 ?_
          obtain ⟨g27_3, h⟩ := h
          obtain ⟨t27_5, g27_5, h⟩ := h
          refine .reg1 (e1 := listEnv [(0, .rows (a0.map TCell.cells)), (3, .ptr 0 1 3 0 0), (4, .ptr 1 1 3 0 0), (5, .ptr 2 1 3 0 0), (6, i6 x10)]) (H1 := [⟨3, [(TCell.lit a1)], 0, none⟩, ⟨3, [GK_c0], 0, none⟩, ⟨3, [(TCell.lit t27_5)], 0, none⟩]) rfl ?_ ?_
          · exact .drawM [(5, 27, .agg (TCell.lit t27_5)), (4, 26, .agg (TCell.lit (rdl a0 x10))), (3, 25, .cptr (TCell.lit (rdl a0 x10)) 0), (2, 24, i6 x10), (1, 23, .rows (a0.map TCell.cells)), (0, 22, .agg [u6 x7, i6 x8, i6 x9])] [(6, 2, ⟨3, [(TCell.lit t27_5)], 0, none⟩)] [[], [], [], [1, 2], [3, 1, 2], [0, 4, 3, 1, 2], [5, 0, 4, 3, 1, 2]] (by rfl) (by rfl) (by rfl) (by exact ⟨oP (fun _ => ldG rfl sz81 ag81 rfl) rfl, oP (fun _ => mvR rfl) rfl, oP (fun _ => mvV rfl) rfl, oP (fun _ => ixR (l := a0) (lit := TCell.lit) sl36 rfl rfl (fun _ => rfl) g27_3.1 g27_3.2) rfl, oP (fun _ => ldCG rfl sz81 ag81 rfl) rfl, fun S hS hD hn => .oneI hS hD hn rfl rfl (callee_of rfl go87 rfl) (.pure rfl rfl (r05_Joined.D g27_5)) rfl rfl rfl, fun S hS hD hn => .one0 0 rfl rfl (stB (cs0 := [u6 x7, i6 x8, i6 x9]) (cs := (TCell.lit t27_5)) (cs1 := (TCell.lit t27_5)) rfl rfl sz81 rfl ⟨Nat.le_of_ble_eq_true rfl, rfl⟩ rfl) (drawE_other _ _ _ _ rfl) rfl, trivial⟩) _ (by exact ⟨.free rfl rfl, .ptr rfl, .ptr rfl, .ptr rfl, .free rfl rfl, trivial⟩) (by rfl)
          refine .keepL [0, 1, 2] [(0, .rows (a0.map TCell.cells)), (3, .ptr 0 1 3 0 0), (4, .ptr 1 1 3 0 0), (5, .ptr 2 1 3 0 0), (6, i6 x10)] [⟨3, [(TCell.lit a1)], 0, none⟩, ⟨3, [GK_c0], 0, none⟩, ⟨3, [(TCell.lit t27_5)], 0, none⟩] (by decide) (by decide) ⟨.free rfl rfl, .ptr rfl, .ptr rfl, .ptr rfl, .free rfl rfl, trivial⟩ ⟨⟨_, rfl, bcBox (all2_free rfl)⟩, ⟨_, rfl, bcBox (all2_free rfl)⟩, ⟨_, rfl, bcBox (all2_free rfl)⟩, trivial⟩ ?_
          exact hJ1 _ h
        · rw [if_neg c15] at h
          refine .condF rfl (nb c15) <| .skip <| .keepL [0, 1, 2] [(0, .rows (a0.map TCell.cells)), (3, .ptr 0 1 3 0 0), (4, .ptr 1 1 3 0 0), (5, .ptr 2 1 3 0 0), (6, i6 x10)] [⟨3, [(TCell.lit a1)], 0, none⟩, ⟨3, [GK_c0], 0, none⟩, ⟨3, [[u6 x7, i6 x8, i6 x9]], 0, none⟩] (by decide) (by decide) ⟨.free rfl rfl, .ptr rfl, .ptr rfl, .ptr rfl, .free rfl rfl, trivial⟩ ⟨⟨_, rfl, bcBox (all2_free rfl)⟩, ⟨_, rfl, bcBox (all2_free rfl)⟩, ⟨_, rfl, bcBox (all2_free rfl)⟩, trivial⟩ ?_
          exact hJ1 _ h
    · rw [if_neg c11] at h
      refine .condF rfl (df c11) <| .exit rfl <| .keepL [1, 2] [(4, .ptr 0 1 3 0 0), (5, .ptr 1 1 3 0 0)] [⟨3, [GK_c0], 0, none⟩, ⟨3, [[u6 x7, i6 x8, i6 x9]], 0, none⟩] (by decide) (by decide) ⟨.ptr rfl, .ptr rfl, trivial⟩ ⟨⟨_, rfl, bcBox (all2_free rfl)⟩, ⟨_, rfl, bcBox (all2_free rfl)⟩, trivial⟩ ?_
      exact hx1 _ h
def r05_Then.b1 (a0 : TSpace) (a1 : TWeight) (a2 : TWeight) : ((List TCell) × Int) → Rnd (((List TCell) × Int)) ((List TCell)) TWeight → Prop := fun (x2, x3) z1 => if x3 < a0.Dim then (((InR x3 a2.Cells.length)) ∧ ∃ t21_9 : TCell, (r05_behind.f a1.Cells (rdl a2.Cells x3) t21_9) ∧ ((Fits (x2.length + 1) 24)) ∧ z1 = .next ((x2 ++ [t21_9]), (IntKind.i64.wrap (x3 + 1)))) else (z1 = .exit x2)
def r05_Then.step (self35 : TSpace → TWeight → TWeight → TWeight → Prop) (a0 : TSpace) (a1 : TWeight) (a2 : TWeight) (r : TWeight) : Prop :=
  if (a1.Zero || a2.Zero) = true then (r = (TWeight.mk true 0 (TFacts.mk 0 []) [] [])) else (if a0.Tag = 2 then (r = (TWeight.mk false (if a0.Dim < (IntKind.i64.wrap (a1.Cost + a2.Cost)) then a0.Dim else (IntKind.i64.wrap (a1.Cost + a2.Cost))) (TFacts.mk 0 []) [] [])) else (if a0.Tag = 3 then (∃ t10_6 : TFacts × Int, (r03_Extend.f a0.Dim a1.Facts a2.Facts t10_6) ∧ r = (TWeight.mk false 0 t10_6.1 [] [])) else (if a0.Tag = 4 then (∃ o1 : Fin ((List TCell)) TWeight, Loop (r05_Then.b1 a0 a1 a2) ([], 0) o1 ∧ o1.on (fun x4 => r = (TWeight.mk false 0 (TFacts.mk 0 []) x4 [])) (fun r_ => r = r_)) else (if a0.Tag = 5 then (((InR 0 a0.Parts.length)) ∧ ((InR 0 a1.Parts.length)) ∧ ((InR 0 a2.Parts.length)) ∧ ∃ t25_12 : TWeight, (self35 (rdl a0.Parts 0) (rdl a1.Parts 0) (rdl a2.Parts 0) t25_12) ∧ ((InR 1 a0.Parts.length)) ∧ ((InR 1 a1.Parts.length)) ∧ ((InR 1 a2.Parts.length)) ∧ ∃ t25_25 : TWeight, (self35 (rdl a0.Parts 1) (rdl a1.Parts 1) (rdl a2.Parts 1) t25_25) ∧ r = (TWeight.mk false 0 (TFacts.mk 0 []) [] [t25_12, t25_25])) else (r = (TWeight.mk false 0 (TFacts.mk 0 []) [] []))))))
theorem r05_Then.stepD {self35 : TSpace → TWeight → TWeight → TWeight → Prop} {a0 : TSpace} {a1 : TWeight} {a2 : TWeight} (hs35 : ∀ z0_ z1_ z2_ r_, self35 z0_ z1_ z2_ r_ → D Tryz.prog X (.callH 35 [.agg (TSpace.lit z0_), .agg (TWeight.lit z1_), .agg (TWeight.lit z2_)] [] (.agg (TWeight.lit r_)) [])) {r : TWeight} (h : r05_Then.step self35 a0 a1 a2 r) : D Tryz.prog X (.callH 35 [.agg (TSpace.lit a0), .agg (TWeight.lit a1), .agg (TWeight.lit a2)] [] (.agg (TWeight.lit r)) []) := by
  unfold r05_Then.step at h
  refine .enter 95 0 fn35 rfl rfl rfl <| .seq <| .room 0 <| .room 0 <| .room 0 <| .room 0 <| .reg0 rfl (.op 0 rfl (bxP (s := 3) (cs := (TSpace.lit a0)) rfl ⟨rfl, by decide, rfl⟩ rfl) <| .op 1 rfl (bxP (s := 6) (cs := (TWeight.lit a1)) rfl ⟨rfl, by decide, rfl⟩ rfl) <| .op 2 rfl (bxP (s := 6) (cs := (TWeight.lit a2)) rfl ⟨rfl, by decide, rfl⟩ rfl) <| .op 3 rfl (alP (s := 6) ze39 ⟨rfl, by decide, rfl⟩ rfl) <| .nil0) ?_
  refine .seq <| .seq ?_
  refine .reg0 (e1 := listEnv [(3, .ptr 0 1 3 0 0), (4, .ptr 1 1 6 0 0), (5, .ptr 2 1 6 0 0), (6, .ptr 3 1 6 0 0), (14, bo (a1.Zero || a2.Zero))]) (H1 := [⟨3, [(TSpace.lit a0)], 0, none⟩, ⟨6, [(TWeight.lit a1)], 0, none⟩, ⟨6, [(TWeight.lit a2)], 0, none⟩, ⟨6, [GK_c2], 0, none⟩]) rfl ?_ ?_
  · refine .o (faP fa39_0 rfl) <| .o (ldP rfl sz4 ag4 rfl) <| .m rfl <| ?_
    by_cases c1 : a1.Zero = true
    · exact (.n rfl c1 <| .n rfl c1 <| .o (pkTV rfl c1 rfl) <| .nilL _ ⟨.ptr rfl, .ptr rfl, .ptr rfl, .ptr rfl, cB rfl (mOrT c1), trivial⟩)
    · exact (.g rfl (nb c1) (faP fa39_0 rfl) <| .g rfl (nb c1) (ldP rfl sz4 ag4 rfl) <| .o (pkFV rfl (nb c1) rfl) <| .nilL _ ⟨.ptr rfl, .ptr rfl, .ptr rfl, .ptr rfl, cB rfl (mOrF (nb c1) rfl), trivial⟩)
  by_cases c2 : (a1.Zero || a2.Zero) = true
  · rw [if_pos c2] at h
    refine .condT rfl c2 <| .seq <| .reg0 rfl (.op 0 rfl (bldS (cs := GK_c3) ze39 pl39 rfl rfl) <| .op 0 rfl (stB (cs0 := GK_c2) (cs := GK_c3) (cs1 := GK_c3) rfl rfl sz39 rfl ⟨Nat.le_of_ble_eq_true rfl, rfl⟩ rfl) <| .nil0) ?_
    replace h := h.symm
    subst h
    refine .k [(6, .cptr [bo true, i6 0, u6 0, .rows (([] : List Int).map (cInt .u64)), .rows (([] : List TCell).map TCell.cells), .rows (([] : List TWeight).map TWeight.cells)] 0)] ⟨cFixP rfl rfl (.cons (.free rfl rfl) <| .cons (.free rfl rfl) <| .cons (.free rfl rfl) <| .cons (.nil) <| .cons (.nil) <| .cons (.nil) <| .nil), trivial⟩ ?_
    exact .ret rfl
  · rw [if_neg c2] at h
    refine .condF rfl (nb c2) <| .skip <| .seq <| .room 0 <| .reg0 rfl (.op 0 rfl (bldS (cs := GK_c2) ze39 pl39 rfl rfl) <| .op 4 rfl (alP (s := 6) ze39 ⟨rfl, by decide, rfl⟩ rfl) <| .op 0 rfl (stB (cs0 := GK_c2) (cs := GK_c2) (cs1 := GK_c2) rfl rfl sz39 rfl ⟨Nat.le_of_ble_eq_true rfl, rfl⟩ rfl) <| .nil0) <| .seq <| .seq <| .reg0 rfl (.op 0 rfl (faP fa25_0 rfl) <| .op 0 rfl (ldP rfl sz22 ag22 rfl) <| .nil0) ?_
    refine .block <| .seq <| .reg0 rfl (.op 0 rfl (eqI rfl rfl) <| .op 0 rfl (asV rfl) <| .nil0) ?_
    by_cases c3 : a0.Tag = 2
    · rw [if_pos c3] at h
      refine .condT rfl (bt c3) <| .reg0 rfl (.o (faP fa39_1 rfl) <| .o (ldP rfl sz3 ag3 rfl) <| .o (faP fa39_1 rfl) <| .o (ldP rfl sz3 ag3 rfl) <| .o (addI rfl rfl) <| .o (faP fa25_1 rfl) <| .o (ldP rfl sz3 ag3 rfl) <| .o (minI rfl rfl) <| .o (faP fa39_1 rfl) <| .o (stB (cs0 := GK_c2) (cs := [i6 (if a0.Dim < (IntKind.i64.wrap (a1.Cost + a2.Cost)) then a0.Dim else (IntKind.i64.wrap (a1.Cost + a2.Cost)))]) (cs1 := [bo false, i6 (if a0.Dim < (IntKind.i64.wrap (a1.Cost + a2.Cost)) then a0.Dim else (IntKind.i64.wrap (a1.Cost + a2.Cost))), u6 0, nul, nul, nul]) rfl rfl sz3 rfl ⟨Nat.le_of_ble_eq_true rfl, rfl⟩ rfl) <| .nil0) ?_
      refine .inBlock <| .seq <| .reg0 rfl (.op 0 rfl (ldG rfl sz39 ag39 rfl) <| .op 0 rfl (stB (cs0 := GK_c2) (cs := [bo false, i6 (if a0.Dim < (IntKind.i64.wrap (a1.Cost + a2.Cost)) then a0.Dim else (IntKind.i64.wrap (a1.Cost + a2.Cost))), u6 0, nul, nul, nul]) (cs1 := [bo false, i6 (if a0.Dim < (IntKind.i64.wrap (a1.Cost + a2.Cost)) then a0.Dim else (IntKind.i64.wrap (a1.Cost + a2.Cost))), u6 0, nul, nul, nul]) rfl rfl sz39 rfl ⟨Nat.le_of_ble_eq_true rfl, rfl⟩ rfl) <| .nil0) ?_
      replace h := h.symm
      subst h
      refine .k [(6, .cptr [bo false, i6 (if a0.Dim < (IntKind.i64.wrap (a1.Cost + a2.Cost)) then a0.Dim else (IntKind.i64.wrap (a1.Cost + a2.Cost))), u6 0, .rows (([] : List Int).map (cInt .u64)), .rows (([] : List TCell).map TCell.cells), .rows (([] : List TWeight).map TWeight.cells)] 0)] ⟨cFixP rfl rfl (.cons (.free rfl rfl) <| .cons (.free rfl rfl) <| .cons (.free rfl rfl) <| .cons (.nil) <| .cons (.nil) <| .cons (.nil) <| .nil), trivial⟩ ?_
      exact .ret rfl
    · rw [if_neg c3] at h
      refine .condF rfl (bn c3) <| .seq <| .reg0 rfl (.op 0 rfl (eqI rfl rfl) <| .op 0 rfl (asV rfl) <| .nil0) ?_
      by_cases c4 : a0.Tag = 3
      · rw [if_pos c4] at h
        refine .condT rfl (bt c4) ?_
        obtain ⟨t10_6, g10_6, h⟩ := h
        refine .reg0 rfl (.o (faP fa25_1 rfl) <| .o (ldP rfl sz3 ag3 rfl) <| .o (faP fa39_2 rfl) <| .o (ldG rfl sz35 ag35 rfl) <| .o (faP fa39_2 rfl) <| .o (ldG rfl sz35 ag35 rfl) <| .c rfl go55 rfl rfl rfl (r03_Extend.D g10_6) <| .o (mvT rfl) <| .o (exT rfl rfl) <| .o (exT rfl rfl) <| .o (faP fa39_2 rfl) <| .o (stB (cs0 := GK_c2) (cs := (TFacts.lit t10_6.1)) (cs1 := [bo false, i6 0, u6 t10_6.1.Gen, .rows (t10_6.1.Rows.map (cInt .u64)), nul, nul]) rfl rfl sz35 rfl ⟨Nat.le_of_ble_eq_true rfl, rfl⟩ rfl) <| .nil0) ?_
        refine .inBlock <| .seq <| .reg0 rfl (.op 0 rfl (ldG rfl sz39 ag39 rfl) <| .op 0 rfl (stB (cs0 := GK_c2) (cs := [bo false, i6 0, u6 t10_6.1.Gen, .rows (t10_6.1.Rows.map (cInt .u64)), nul, nul]) (cs1 := [bo false, i6 0, u6 t10_6.1.Gen, .rows (t10_6.1.Rows.map (cInt .u64)), nul, nul]) rfl rfl sz39 rfl ⟨Nat.le_of_ble_eq_true rfl, rfl⟩ rfl) <| .nil0) ?_
        replace h := h.symm
        subst h
        refine .k [(6, .cptr [bo false, i6 0, u6 t10_6.1.Gen, .rows (t10_6.1.Rows.map (cInt .u64)), .rows (([] : List TCell).map TCell.cells), .rows (([] : List TWeight).map TWeight.cells)] 0)] ⟨cFixP rfl rfl (.cons (.free rfl rfl) <| .cons (.free rfl rfl) <| .cons (.free rfl rfl) <| .cons (.free rfl rfl) <| .cons (.nil) <| .cons (.nil) <| .nil), trivial⟩ ?_
        exact .ret rfl
      · rw [if_neg c4] at h
        refine .condF rfl (bn c4) <| .seq <| .reg0 rfl (.op 0 rfl (eqI rfl rfl) <| .op 0 rfl (asV rfl) <| .nil0) ?_
        by_cases c5 : a0.Tag = 4
        · rw [if_pos c5] at h
          refine .condT rfl (bt c5) <| .seq <| .reg0 rfl (.op 0 rfl (asV rfl) <| .nil0) <| .block <| .room 3 <| .keepL [0, 1, 2, 3, 4, 5] [(3, .ptr 0 1 3 0 0), (4, .ptr 1 1 6 0 0), (5, .ptr 2 1 6 0 0), (6, .ptr 3 1 6 0 0), (7, .ptr 4 1 6 0 0), (8, i6 0)] [⟨3, [(TSpace.lit a0)], 0, none⟩, ⟨6, [(TWeight.lit a1)], 0, none⟩, ⟨6, [(TWeight.lit a2)], 0, none⟩, ⟨6, [GK_c2], 0, none⟩, ⟨6, [[bo false, i6 0, u6 0, nul, .own 5 0, nul]], 0, none⟩, ⟨3, [].map TCell.cells, 0, none⟩] (by decide) (by decide) ⟨.ptr rfl, .ptr rfl, .ptr rfl, .ptr rfl, .ptr rfl, .free rfl rfl, trivial⟩ ⟨⟨_, rfl, bcBox (all2_free rfl)⟩, ⟨_, rfl, bcBox (all2_free rfl)⟩, ⟨_, rfl, bcBox (all2_free rfl)⟩, ⟨_, rfl, bcBox (all2_free rfl)⟩, ⟨_, rfl, bcBox (.cons (.free rfl rfl) <| .cons (.free rfl rfl) <| .cons (.free rfl rfl) <| .cons (.free rfl rfl) <| .cons (.nilOwn) <| .cons (.free rfl rfl) <| .nil)⟩, ⟨_, rfl, (bcRow (l := []) sl36 (Nat.le_refl _) rfl)⟩, trivial⟩ ?_
          obtain ⟨o1, hL1, h⟩ := h
          refine .loopB (r05_Then.b1 a0 a1 a2) (fun (x2, x3) => listEnv [(3, .ptr 0 1 3 0 0), (4, .ptr 1 1 6 0 0), (5, .ptr 2 1 6 0 0), (6, .ptr 3 1 6 0 0), (7, .ptr 4 1 6 0 0), (8, i6 x3)]) (fun (x2, x3) => [⟨3, [(TSpace.lit a0)], 0, none⟩, ⟨6, [(TWeight.lit a1)], 0, none⟩, ⟨6, [(TWeight.lit a2)], 0, none⟩, ⟨6, [GK_c2], 0, none⟩, ⟨6, [[bo false, i6 0, u6 0, nul, .own 5 x2.length, nul]], 0, none⟩, ⟨3, x2.map TCell.cells, 0, none⟩]) (fun x4 => listEnv [(6, .ptr 0 1 6 0 0), (7, .ptr 1 1 6 0 0)]) (fun x4 => [⟨6, [GK_c2], 0, none⟩, ⟨6, [[bo false, i6 0, u6 0, nul, .own 2 x4.length, nul]], 0, none⟩, ⟨3, x4.map TCell.cells, 0, none⟩]) hL1 (fun r_ => r = r_) ?_ ?_ ?_
          · rintro x4 rfl
            try dsimp only [Fin.on] at h
            refine .inBlock <| .seq <| .reg0 rfl (.op 0 rfl (ldG rfl sz39 ag39 rfl) <| .op 0 rfl (stB (cs0 := GK_c2) (cs := [bo false, i6 0, u6 0, nul, .own 2 x4.length, nul]) (cs1 := [bo false, i6 0, u6 0, nul, .own 2 x4.length, nul]) rfl rfl sz39 rfl ⟨Nat.le_of_ble_eq_true rfl, rfl⟩ rfl) <| .nil0) ?_
            replace h := h.symm
            subst h
            refine .k [(6, .cptr [bo false, i6 0, u6 0, .rows (([] : List Int).map (cInt .u64)), .rows (x4.map TCell.cells), .rows (([] : List TWeight).map TWeight.cells)] 0)] ⟨cFixP rfl rfl (.cons (.free rfl rfl) <| .cons (.free rfl rfl) <| .cons (.free rfl rfl) <| .cons (.nil) <| .cons (cFixO (l := x4) sl36 rfl rfl rfl rfl) <| .cons (.nil) <| .nil), trivial⟩ ?_
            exact .ret rfl
          · rintro r_ rfl
            exact h
          · rintro ⟨x2, x3⟩ z1 h hn1 hx1 hr1
            dsimp only [r05_Then.b1] at h
            refine .seq <| .seq <| .reg0 rfl (.op 0 rfl (mvV rfl) <| .op 0 rfl (faP fa25_1 rfl) <| .op 0 rfl (ldP rfl sz3 ag3 rfl) <| .op 0 rfl (ltI rfl rfl) <| .nil0) ?_
            by_cases c8 : x3 < a0.Dim
            · rw [if_pos c8] at h
              refine .condT rfl (dt c8) <| .skip <| .seq <| .block ?_
              obtain ⟨g21_7, h⟩ := h
              obtain ⟨t21_9, g21_9, h⟩ := h
              obtain ⟨g21_11, h⟩ := h
              refine .room 0 <| .room 0 ?_
              refine .reg1 (e1 := listEnv [(3, .ptr 0 1 3 0 0), (4, .ptr 1 1 6 0 0), (5, .ptr 2 1 6 0 0), (6, .ptr 3 1 6 0 0), (7, .ptr 4 1 6 0 0), (8, i6 x3)]) (H1 := [⟨3, [(TSpace.lit a0)], 0, none⟩, ⟨6, [(TWeight.lit a1)], 0, none⟩, ⟨6, [(TWeight.lit a2)], 0, none⟩, ⟨6, [GK_c2], 0, none⟩, ⟨6, [[bo false, i6 0, u6 0, nul, .own 5 ((x2 ++ [t21_9]).length), nul]], 0, none⟩, ⟨3, (x2 ++ [t21_9]).map TCell.cells, 0, none⟩, ⟨3, [t21_9].map TCell.cells, 0, none⟩, Blk.hole]) rfl ?_ ?_
              · exact .drawM [(12, 63, .ptr 4 1 6 0 4), (11, 62, .own 5 ((x2 ++ [t21_9]).length)), (10, 61, .own 6 ([t21_9].length)), (9, 60, .agg (TCell.lit t21_9)), (8, 59, .agg (TCell.lit (rdl a2.Cells x3))), (7, 58, .cptr (TCell.lit (rdl a2.Cells x3)) 0), (6, 57, i6 x3), (5, 56, .rows (a2.Cells.map TCell.cells)), (4, 55, .ptr 2 1 6 0 4), (3, 54, .rows (a1.Cells.map TCell.cells)), (2, 53, .ptr 1 1 6 0 4), (1, 52, .own 5 x2.length), (0, 51, .ptr 4 1 6 0 4)] [(13, 4, ⟨6, [[bo false, i6 0, u6 0, nul, .own 5 ((x2 ++ [t21_9]).length), nul]], 0, none⟩), (11, 5, ⟨3, (x2 ++ [t21_9]).map TCell.cells, 0, none⟩), (10, 6, ⟨3, [t21_9].map TCell.cells, 0, none⟩)] [[], [0], [], [2], [], [4], [], [5, 4, 6], [7, 5, 4, 6], [3, 2, 8, 7, 5, 4, 6], [9, 3, 2, 8, 7, 5, 4, 6], [1, 0, 10, 9, 3, 2, 8, 7, 5, 4, 6], [0, 1, 2, 3, 4, 5, 6, 7, 8, 9, 10, 11], [12, 0, 1, 2, 3, 4, 5, 6, 7, 8, 9, 10, 11]] (by rfl) (by rfl) (by rfl) (by exact ⟨oP (fun _ => faP fa39_3 rfl) rfl, oP (fun _ => ldP rfl sz36 ag36 rfl) rfl, oP (fun _ => faP fa39_3 rfl) rfl, oP (fun _ => ldP rfl sz36 ag36 rfl) rfl, oP (fun _ => faP fa39_3 rfl) rfl, oP (fun _ => ldP rfl sz36 ag36 rfl) rfl, oP (fun _ => mvV rfl) rfl, oP (fun _ => ixR (l := a2.Cells) (lit := TCell.lit) sl36 rfl rfl (fun _ => rfl) g21_7.1 g21_7.2) rfl, oP (fun _ => ldCG rfl sz81 ag81 rfl) rfl, fun S hS hD hn => .oneI hS hD hn rfl rfl (callee_of rfl go56 rfl) (.pure rfl rfl (r05_behind.D g21_9)) rfl rfl rfl, oW 6 (fun _ => bldL (s := 3) (cs := [u6 t21_9.From, i6 t21_9.Kind, i6 t21_9.K]) un36 sz81 ze81 ⟨by decide, rfl, by decide⟩ rfl rfl rfl rfl) rfl fun _ => rfl, oW 0 (fun _ => ap1 (l := x2) t21_9 sl36 rfl rfl rfl (Nat.zero_le _) (elems_own (l := [t21_9]) rfl rfl) g21_11) rfl fun _ => rfl, oP (fun _ => faP fa39_3 rfl) rfl, fun S hS hD hn => .one0 0 rfl rfl (stB (cs0 := [bo false, i6 0, u6 0, nul, .own 5 x2.length, nul]) (cs := [.own 5 ((x2 ++ [t21_9]).length)]) (cs1 := [bo false, i6 0, u6 0, nul, .own 5 ((x2 ++ [t21_9]).length), nul]) rfl rfl sz36 rfl ⟨Nat.le_of_ble_eq_true rfl, rfl⟩ rfl) (drawE_other _ _ _ _ rfl) rfl, trivial⟩) _ (by exact ⟨.ptr rfl, .ptr rfl, .ptr rfl, .ptr rfl, .ptr rfl, .free rfl rfl, trivial⟩) (by rfl)
              refine .inBlock <| .reg0 rfl (.op 0 rfl (mvV rfl) <| .op 0 rfl (addI rfl rfl) <| .op 0 rfl (asV rfl) <| .nil0) <| .keepL [0, 1, 2, 3, 4, 5] [(3, .ptr 0 1 3 0 0), (4, .ptr 1 1 6 0 0), (5, .ptr 2 1 6 0 0), (6, .ptr 3 1 6 0 0), (7, .ptr 4 1 6 0 0), (8, i6 (IntKind.i64.wrap (x3 + 1)))] [⟨3, [(TSpace.lit a0)], 0, none⟩, ⟨6, [(TWeight.lit a1)], 0, none⟩, ⟨6, [(TWeight.lit a2)], 0, none⟩, ⟨6, [GK_c2], 0, none⟩, ⟨6, [[bo false, i6 0, u6 0, nul, .own 5 ((x2 ++ [t21_9]).length), nul]], 0, none⟩, ⟨3, (x2 ++ [t21_9]).map TCell.cells, 0, none⟩] (by decide) (by decide) ⟨.ptr rfl, .ptr rfl, .ptr rfl, .ptr rfl, .ptr rfl, .free rfl rfl, trivial⟩ ⟨⟨_, rfl, bcBox (all2_free rfl)⟩, ⟨_, rfl, bcBox (all2_free rfl)⟩, ⟨_, rfl, bcBox (all2_free rfl)⟩, ⟨_, rfl, bcBox (all2_free rfl)⟩, ⟨_, rfl, bcBox (.cons (.free rfl rfl) <| .cons (.free rfl rfl) <| .cons (.free rfl rfl) <| .cons (.free rfl rfl) <| .cons (.own rfl) <| .cons (.free rfl rfl) <| .nil)⟩, ⟨_, rfl, bcRow (l := (x2 ++ [t21_9])) sl36 (Nat.le_refl _) rfl⟩, trivial⟩ ?_
              exact hn1 _ h
            · rw [if_neg c8] at h
              refine .condF rfl (df c8) <| .exit rfl <| .keepL [3, 4, 5] [(6, .ptr 0 1 6 0 0), (7, .ptr 1 1 6 0 0)] [⟨6, [GK_c2], 0, none⟩, ⟨6, [[bo false, i6 0, u6 0, nul, .own 2 x2.length, nul]], 0, none⟩, ⟨3, x2.map TCell.cells, 0, none⟩] (by decide) (by decide) ⟨.ptr rfl, .ptr rfl, trivial⟩ ⟨⟨_, rfl, bcBox (all2_free rfl)⟩, ⟨_, rfl, bcBox (.cons (.free rfl rfl) <| .cons (.free rfl rfl) <| .cons (.free rfl rfl) <| .cons (.free rfl rfl) <| .cons (.own rfl) <| .cons (.free rfl rfl) <| .nil)⟩, ⟨_, rfl, bcRow (l := x2) sl36 (Nat.le_refl _) rfl⟩, trivial⟩ ?_
              exact hx1 _ h
        · rw [if_neg c5] at h
          refine .condF rfl (bn c5) <| .seq <| .reg0 rfl (.op 0 rfl (eqI rfl rfl) <| .op 0 rfl (asV rfl) <| .nil0) ?_
          by_cases c9 : a0.Tag = 5
          · rw [if_pos c9] at h
            refine .condT rfl (bt c9) ?_
            obtain ⟨g25_2, h⟩ := h
            obtain ⟨g25_6, h⟩ := h
            obtain ⟨g25_10, h⟩ := h
            obtain ⟨t25_12, g25_12, h⟩ := h
            obtain ⟨g25_15, h⟩ := h
            obtain ⟨g25_19, h⟩ := h
            obtain ⟨g25_23, h⟩ := h
            obtain ⟨t25_25, g25_25, h⟩ := h
            refine .room 0 ?_
            refine .reg1 (e1 := listEnv [(6, .ptr 3 1 6 0 0), (7, .ptr 4 1 6 0 0)]) (H1 := [⟨3, [(TSpace.lit a0)], 0, none⟩, ⟨6, [(TWeight.lit a1)], 0, none⟩, ⟨6, [(TWeight.lit a2)], 0, none⟩, ⟨6, [GK_c2], 0, none⟩, ⟨6, [[bo false, i6 0, u6 0, nul, nul, .own 5 ([t25_12, t25_25].length)]], 0, none⟩, ⟨6, [t25_12, t25_25].map TWeight.cells, 0, none⟩]) rfl ?_ ?_
            · exact .drawM [(27, 93, .ptr 4 1 6 0 5), (26, 92, .own 5 ([t25_12, t25_25].length)), (25, 91, .agg (TWeight.lit t25_25)), (24, 90, .agg (TWeight.lit (rdl a2.Parts 1))), (23, 89, .cptr (TWeight.lit (rdl a2.Parts 1)) 0), (22, 88, .rows (a2.Parts.map TWeight.cells)), (21, 87, .ptr 2 1 6 0 5), (20, 86, .agg (TWeight.lit (rdl a1.Parts 1))), (19, 85, .cptr (TWeight.lit (rdl a1.Parts 1)) 0), (18, 84, .rows (a1.Parts.map TWeight.cells)), (17, 83, .ptr 1 1 6 0 5), (16, 82, .agg (TSpace.lit (rdl a0.Parts 1))), (15, 81, .cptr (TSpace.lit (rdl a0.Parts 1)) 0), (14, 80, .rows (a0.Parts.map TSpace.cells)), (13, 79, .ptr 0 1 3 0 2), (12, 78, .agg (TWeight.lit t25_12)), (11, 77, .agg (TWeight.lit (rdl a2.Parts 0))), (10, 76, .cptr (TWeight.lit (rdl a2.Parts 0)) 0), (9, 75, .rows (a2.Parts.map TWeight.cells)), (8, 74, .ptr 2 1 6 0 5), (7, 73, .agg (TWeight.lit (rdl a1.Parts 0))), (6, 72, .cptr (TWeight.lit (rdl a1.Parts 0)) 0), (5, 71, .rows (a1.Parts.map TWeight.cells)), (4, 70, .ptr 1 1 6 0 5), (3, 69, .agg (TSpace.lit (rdl a0.Parts 0))), (2, 68, .cptr (TSpace.lit (rdl a0.Parts 0)) 0), (1, 67, .rows (a0.Parts.map TSpace.cells)), (0, 66, .ptr 0 1 3 0 2)] [(28, 4, ⟨6, [[bo false, i6 0, u6 0, nul, nul, .own 5 ([t25_12, t25_25].length)]], 0, none⟩), (26, 5, ⟨6, [t25_12, t25_25].map TWeight.cells, 0, none⟩)] [[], [0], [1, 0], [2, 1, 0], [], [4], [5, 4], [6, 5, 4], [], [8], [9, 8], [10, 9, 8], [3, 2, 1, 0, 7, 6, 5, 4, 11, 10, 9, 8], [], [13], [14, 13], [15, 14, 13], [], [17], [18, 17], [19, 18, 17], [], [21], [22, 21], [23, 22, 21], [16, 15, 14, 13, 20, 19, 18, 17, 24, 23, 22, 21, 12, 3, 2, 1, 0, 7, 6, 5, 4, 11, 10, 9, 8], [12, 3, 2, 1, 0, 7, 6, 5, 4, 11, 10, 9, 8, 25, 16, 15, 14, 13, 20, 19, 18, 17, 24, 23, 22, 21], [0, 1, 2, 3, 4, 5, 6, 7, 8, 9, 10, 11, 12, 13, 14, 15, 16, 17, 18, 19, 20, 21, 22, 23, 24, 25, 26], [27, 0, 1, 2, 3, 4, 5, 6, 7, 8, 9, 10, 11, 12, 13, 14, 15, 16, 17, 18, 19, 20, 21, 22, 23, 24, 25, 26]] (by rfl) (by rfl) (by rfl) (by exact ⟨oP (fun _ => faP fa25_2 rfl) rfl, oP (fun _ => ldP rfl sz23 ag23 rfl) rfl, oP (fun _ => ixR (l := a0.Parts) (lit := TSpace.lit) sl23 rfl rfl TSpace.cells_lit g25_2.1 g25_2.2) rfl, oP (fun _ => ldCG rfl sz25 ag25 rfl) rfl, oP (fun _ => faP fa39_4 rfl) rfl, oP (fun _ => ldP rfl sz37 ag37 rfl) rfl, oP (fun _ => ixR (l := a1.Parts) (lit := TWeight.lit) sl37 rfl rfl TWeight.cells_lit g25_6.1 g25_6.2) rfl, oP (fun _ => ldCG rfl sz39 ag39 rfl) rfl, oP (fun _ => faP fa39_4 rfl) rfl, oP (fun _ => ldP rfl sz37 ag37 rfl) rfl, oP (fun _ => ixR (l := a2.Parts) (lit := TWeight.lit) sl37 rfl rfl TWeight.cells_lit g25_10.1 g25_10.2) rfl, oP (fun _ => ldCG rfl sz39 ag39 rfl) rfl, fun S hS hD hn => .oneI hS hD hn rfl rfl (callee_of rfl go35 rfl) (.pure rfl rfl (hs35 _ _ _ _ g25_12)) rfl rfl rfl, oP (fun _ => faP fa25_2 rfl) rfl, oP (fun _ => ldP rfl sz23 ag23 rfl) rfl, oP (fun _ => ixR (l := a0.Parts) (lit := TSpace.lit) sl23 rfl rfl TSpace.cells_lit g25_15.1 g25_15.2) rfl, oP (fun _ => ldCG rfl sz25 ag25 rfl) rfl, oP (fun _ => faP fa39_4 rfl) rfl, oP (fun _ => ldP rfl sz37 ag37 rfl) rfl, oP (fun _ => ixR (l := a1.Parts) (lit := TWeight.lit) sl37 rfl rfl TWeight.cells_lit g25_19.1 g25_19.2) rfl, oP (fun _ => ldCG rfl sz39 ag39 rfl) rfl, oP (fun _ => faP fa39_4 rfl) rfl, oP (fun _ => ldP rfl sz37 ag37 rfl) rfl, oP (fun _ => ixR (l := a2.Parts) (lit := TWeight.lit) sl37 rfl rfl TWeight.cells_lit g25_23.1 g25_23.2) rfl, oP (fun _ => ldCG rfl sz39 ag39 rfl) rfl, fun S hS hD hn => .oneI hS hD hn rfl rfl (callee_of rfl go35 rfl) (.pure rfl rfl (hs35 _ _ _ _ g25_25)) rfl rfl rfl, oW 5 (fun _ => bldT (s := 6) (cs := [bo t25_12.Zero, i6 t25_12.Cost, u6 t25_12.Facts.Gen, .rows (t25_12.Facts.Rows.map (cInt .u64)), .rows (t25_12.Cells.map TCell.cells), .rows (t25_12.Parts.map TWeight.cells), bo t25_25.Zero, i6 t25_25.Cost, u6 t25_25.Facts.Gen, .rows (t25_25.Facts.Rows.map (cInt .u64)), .rows (t25_25.Cells.map TCell.cells), .rows (t25_25.Parts.map TWeight.cells)]) (cf := TWeight.cells) [t25_12, t25_25] un37 sz39 ze39 ⟨by decide, rfl, by decide⟩ rfl rfl rfl (by simp only [List.map, TWeight.cells_lit]; rfl) rfl) rfl fun _ => rfl, oP (fun _ => faP fa39_4 rfl) rfl, fun S hS hD hn => .one0 0 rfl rfl (stB (cs0 := GK_c2) (cs := [.own 5 ([t25_12, t25_25].length)]) (cs1 := [bo false, i6 0, u6 0, nul, nul, .own 5 ([t25_12, t25_25].length)]) rfl rfl sz37 rfl ⟨Nat.le_of_ble_eq_true rfl, rfl⟩ rfl) (drawE_other _ _ _ _ rfl) rfl, trivial⟩) _ (by exact ⟨.ptr rfl, .ptr rfl, trivial⟩) (by rfl)
            refine .inBlock <| .seq <| .reg0 rfl (.op 0 rfl (ldG rfl sz39 ag39 rfl) <| .op 0 rfl (stB (cs0 := GK_c2) (cs := [bo false, i6 0, u6 0, nul, nul, .own 5 ([t25_12, t25_25].length)]) (cs1 := [bo false, i6 0, u6 0, nul, nul, .own 5 ([t25_12, t25_25].length)]) rfl rfl sz39 rfl ⟨Nat.le_of_ble_eq_true rfl, rfl⟩ rfl) <| .nil0) ?_
            replace h := h.symm
            subst h
            refine .k [(6, .cptr [bo false, i6 0, u6 0, .rows (([] : List Int).map (cInt .u64)), .rows (([] : List TCell).map TCell.cells), .rows ([t25_12, t25_25].map TWeight.cells)] 0)] ⟨cFixP rfl rfl (.cons (.free rfl rfl) <| .cons (.free rfl rfl) <| .cons (.free rfl rfl) <| .cons (.nil) <| .cons (.nil) <| .cons (cFixO (l := [t25_12, t25_25]) sl37 rfl rfl rfl rfl) <| .nil), trivial⟩ ?_
            exact .ret rfl
          · rw [if_neg c9] at h
            refine .condF rfl (bn c9) <| .skip <| .inBlock <| .seq <| .reg0 rfl (.op 0 rfl (ldG rfl sz39 ag39 rfl) <| .op 0 rfl (stB (cs0 := GK_c2) (cs := GK_c2) (cs1 := GK_c2) rfl rfl sz39 rfl ⟨Nat.le_of_ble_eq_true rfl, rfl⟩ rfl) <| .nil0) ?_
            replace h := h.symm
            subst h
            refine .k [(6, .cptr GK_c4 0)] ⟨cFixP rfl rfl (.cons (.free rfl rfl) <| .cons (.free rfl rfl) <| .cons (.free rfl rfl) <| .cons (.nil) <| .cons (.nil) <| .cons (.nil) <| .nil), trivial⟩ ?_
            exact .ret rfl
def r05_Then.fN : Nat → TSpace → TWeight → TWeight → TWeight → Prop
  | 0 => fun _ _ _ _ => False
  | n + 1 => r05_Then.step (r05_Then.fN n)
theorem r05_Then.ND : ∀ (n : Nat) {a0 : TSpace} {a1 : TWeight} {a2 : TWeight} {r : TWeight} (h : r05_Then.fN n a0 a1 a2 r), D Tryz.prog X (.callH 35 [.agg (TSpace.lit a0), .agg (TWeight.lit a1), .agg (TWeight.lit a2)] [] (.agg (TWeight.lit r)) [])
  | 0, _, _, _, _, h => h.elim
  | n + 1, _, _, _, _, h => r05_Then.stepD (fun _ _ _ _ h => r05_Then.ND n h) h
def r05_Then.f (a0 : TSpace) (a1 : TWeight) (a2 : TWeight) (r : TWeight) : Prop := ∃ n, r05_Then.fN n a0 a1 a2 r
theorem r05_Then.D {a0 a1 a2 r} (h : r05_Then.f a0 a1 a2 r) : D Tryz.prog X (.callH 35 [.agg (TSpace.lit a0), .agg (TWeight.lit a1), .agg (TWeight.lit a2)] [] (.agg (TWeight.lit r)) []) := by obtain ⟨n, h⟩ := h; exact r05_Then.ND n h
def r05_Same.b1 (a0 : TWeight) (a1 : TWeight) : Int → Rnd Int Unit Bool → Prop := fun x1 z1 => if x1 < (a0.Cells.length : Int) then (((InR x1 a0.Cells.length)) ∧ ((InR x1 a1.Cells.length)) ∧ if (((rdl a0.Cells x1).From == (rdl a1.Cells x1).From) && (((rdl a0.Cells x1).Kind == (rdl a1.Cells x1).Kind) && (((rdl a0.Cells x1).K == (rdl a1.Cells x1).K) && true))) = true then (z1 = .next (IntKind.i64.wrap (x1 + 1))) else (z1 = .ret false)) else (z1 = .exit ())
def r05_Same.b2 (self11 : TWeight → TWeight → Bool → Prop) (a0 : TWeight) (a1 : TWeight) : Int → Rnd Int Unit Bool → Prop := fun x2 z2 => if x2 < (a0.Parts.length : Int) then (((InR x2 a0.Parts.length)) ∧ ((InR x2 a1.Parts.length)) ∧ ∃ t27_10 : Bool, (self11 (rdl a0.Parts x2) (rdl a1.Parts x2) t27_10) ∧ if t27_10 = true then (z2 = .next (IntKind.i64.wrap (x2 + 1))) else (z2 = .ret false)) else (z2 = .exit ())
def r05_Same.step (self11 : TWeight → TWeight → Bool → Prop) (a0 : TWeight) (a1 : TWeight) (r : Bool) : Prop :=
  ∃ t2_17 : Bool, ((a0.Zero = a1.Zero) → (a0.Cost = a1.Cost) → r03_Same.f a0.Facts a1.Facts t2_17) ∧ if ((!(a0.Zero == a1.Zero)) || ((!(a0.Cost == a1.Cost)) || ((!t2_17) || ((!((a0.Cells.length : Int) == (a1.Cells.length : Int))) || ((a0.Parts.length : Int) != (a1.Parts.length : Int)))))) = true then (r = false) else (∃ o1 : Fin Unit Bool, Loop (r05_Same.b1 a0 a1) 0 o1 ∧ o1.on (fun _ => ∃ o2 : Fin Unit Bool, Loop (r05_Same.b2 self11 a0 a1) 0 o2 ∧ o2.on (fun _ => r = true) (fun r_ => r = r_)) (fun r_ => r = r_))
theorem r05_Same.stepD {self11 : TWeight → TWeight → Bool → Prop} {a0 : TWeight} {a1 : TWeight} (hs11 : ∀ z0_ z1_ r_, self11 z0_ z1_ r_ → D Tryz.prog X (.callH 11 [.agg (TWeight.lit z0_), .agg (TWeight.lit z1_)] [] (.val (.bool r_)) [])) {r : Bool} (h : r05_Same.step self11 a0 a1 r) : D Tryz.prog X (.callH 11 [.agg (TWeight.lit a0), .agg (TWeight.lit a1)] [] (.val (.bool r)) []) := by
  unfold r05_Same.step at h
  refine .enter 82 0 fn11 rfl rfl rfl <| .seq <| .room 0 <| .room 0 <| .reg0 rfl (.op 0 rfl (bxP (s := 6) (cs := (TWeight.lit a0)) rfl ⟨rfl, by decide, rfl⟩ rfl) <| .op 1 rfl (bxP (s := 6) (cs := (TWeight.lit a1)) rfl ⟨rfl, by decide, rfl⟩ rfl) <| .op 0 rfl (asV rfl) <| .nil0) <| .seq <| .seq ?_
  obtain ⟨t2_17, g2_17, h⟩ := h
  refine .reg0 (e1 := listEnv [(2, .ptr 0 1 6 0 0), (3, .ptr 1 1 6 0 0), (44, bo ((!(a0.Zero == a1.Zero)) || ((!(a0.Cost == a1.Cost)) || ((!t2_17) || ((!((a0.Cells.length : Int) == (a1.Cells.length : Int))) || ((a0.Parts.length : Int) != (a1.Parts.length : Int)))))))]) (H1 := [⟨6, [(TWeight.lit a0)], 0, none⟩, ⟨6, [(TWeight.lit a1)], 0, none⟩]) rfl ?_ ?_
  · refine .o (faP fa39_0 rfl) <| .o (ldP rfl sz4 ag4 rfl) <| .o (faP fa39_0 rfl) <| .o (ldP rfl sz4 ag4 rfl) <| .o (neB un4 rfl rfl) <| .m rfl <| ?_
    by_cases c1 : a0.Zero = a1.Zero
    · refine .g rfl (nf c1) (faP fa39_1 rfl) <| .g rfl (nf c1) (ldP rfl sz3 ag3 rfl) <| .g rfl (nf c1) (faP fa39_1 rfl) <| .g rfl (nf c1) (ldP rfl sz3 ag3 rfl) <| .g rfl (nf c1) (neI rfl rfl) <| .o (pkFV rfl (nf c1) rfl) <| .m rfl <| ?_
      by_cases c2 : a0.Cost = a1.Cost
      · refine .g rfl (nf c2) (faP fa39_2 rfl) <| .g rfl (nf c2) (ldG rfl sz35 ag35 rfl) <| .g rfl (nf c2) (faP fa39_2 rfl) <| .g rfl (nf c2) (ldG rfl sz35 ag35 rfl) <| .callI (gT rfl rfl rfl (nf c2)) (callee_of rfl go36 rfl) (.pure rfl rfl (r03_Same.D (g2_17 c1 c2))) <| .g rfl (nf c2) (notB rfl) <| .o (pkFV rfl (nf c2) rfl) <| .m rfl <| ?_
        by_cases c3 : t2_17 = true
        · refine .g rfl (bnotF c3) (faP fa39_3 rfl) <| .g rfl (bnotF c3) (ldP rfl sz36 ag36 rfl) <| .g rfl (bnotF c3) (lnR (l := a0.Cells) sl36 rfl) <| .g rfl (bnotF c3) (faP fa39_3 rfl) <| .g rfl (bnotF c3) (ldP rfl sz36 ag36 rfl) <| .g rfl (bnotF c3) (lnR (l := a1.Cells) sl36 rfl) <| .g rfl (bnotF c3) (neI rfl rfl) <| .o (pkFV rfl (bnotF c3) rfl) <| .m rfl <| ?_
          by_cases c4 : (a0.Cells.length : Int) = (a1.Cells.length : Int)
          · exact (.g rfl (nf c4) (faP fa39_4 rfl) <| .g rfl (nf c4) (ldP rfl sz37 ag37 rfl) <| .g rfl (nf c4) (lnR (l := a0.Parts) sl37 rfl) <| .g rfl (nf c4) (faP fa39_4 rfl) <| .g rfl (nf c4) (ldP rfl sz37 ag37 rfl) <| .g rfl (nf c4) (lnR (l := a1.Parts) sl37 rfl) <| .g rfl (nf c4) (neI rfl rfl) <| .o (pkFV rfl (nf c4) rfl) <| .nilL _ ⟨.ptr rfl, .ptr rfl, cB rfl (mOrF (bnotF (bt c1)) (mOrF (bnotF (bt c2)) (mOrF (bnotF c3) (mOrF (bnotF (bt c4)) rfl)))), trivial⟩)
          · exact (.n rfl (nt c4) <| .n rfl (nt c4) <| .n rfl (nt c4) <| .n rfl (nt c4) <| .n rfl (nt c4) <| .n rfl (nt c4) <| .n rfl (nt c4) <| .o (pkTV rfl (nt c4) rfl) <| .nilL _ ⟨.ptr rfl, .ptr rfl, cB rfl (mOrF (bnotF (bt c1)) (mOrF (bnotF (bt c2)) (mOrF (bnotF c3) (mOrT (bnotT (bn c4)))))), trivial⟩)
        · exact (.n rfl (bnotT (nb c3)) <| .n rfl (bnotT (nb c3)) <| .n rfl (bnotT (nb c3)) <| .n rfl (bnotT (nb c3)) <| .n rfl (bnotT (nb c3)) <| .n rfl (bnotT (nb c3)) <| .n rfl (bnotT (nb c3)) <| .o (pkTV rfl (bnotT (nb c3)) rfl) <| .m rfl <| .n rfl rfl <| .n rfl rfl <| .n rfl rfl <| .n rfl rfl <| .n rfl rfl <| .n rfl rfl <| .n rfl rfl <| .o (pkTV rfl rfl rfl) <| .nilL _ ⟨.ptr rfl, .ptr rfl, cB rfl (mOrF (bnotF (bt c1)) (mOrF (bnotF (bt c2)) (mOrT (bnotT (nb c3))))), trivial⟩)
      · exact (.n rfl (nt c2) <| .n rfl (nt c2) <| .n rfl (nt c2) <| .n rfl (nt c2) <| .n rfl (nt c2) <| .n rfl (nt c2) <| .o (pkTV rfl (nt c2) rfl) <| .m rfl <| .n rfl rfl <| .n rfl rfl <| .n rfl rfl <| .n rfl rfl <| .n rfl rfl <| .n rfl rfl <| .n rfl rfl <| .o (pkTV rfl rfl rfl) <| .m rfl <| .n rfl rfl <| .n rfl rfl <| .n rfl rfl <| .n rfl rfl <| .n rfl rfl <| .n rfl rfl <| .n rfl rfl <| .o (pkTV rfl rfl rfl) <| .nilL _ ⟨.ptr rfl, .ptr rfl, cB rfl (mOrF (bnotF (bt c1)) (mOrT (bnotT (bn c2)))), trivial⟩)
    · exact (.n rfl (nt c1) <| .n rfl (nt c1) <| .n rfl (nt c1) <| .n rfl (nt c1) <| .n rfl (nt c1) <| .o (pkTV rfl (nt c1) rfl) <| .m rfl <| .n rfl rfl <| .n rfl rfl <| .n rfl rfl <| .n rfl rfl <| .n rfl rfl <| .n rfl rfl <| .o (pkTV rfl rfl rfl) <| .m rfl <| .n rfl rfl <| .n rfl rfl <| .n rfl rfl <| .n rfl rfl <| .n rfl rfl <| .n rfl rfl <| .n rfl rfl <| .o (pkTV rfl rfl rfl) <| .m rfl <| .n rfl rfl <| .n rfl rfl <| .n rfl rfl <| .n rfl rfl <| .n rfl rfl <| .n rfl rfl <| .n rfl rfl <| .o (pkTV rfl rfl rfl) <| .nilL _ ⟨.ptr rfl, .ptr rfl, cB rfl (mOrT (bnotT (bn c1))), trivial⟩)
  by_cases c5 : ((!(a0.Zero == a1.Zero)) || ((!(a0.Cost == a1.Cost)) || ((!t2_17) || ((!((a0.Cells.length : Int) == (a1.Cells.length : Int))) || ((a0.Parts.length : Int) != (a1.Parts.length : Int)))))) = true
  · rw [if_pos c5] at h
    refine .condT rfl c5 <| .seq <| .reg0 rfl (.op 0 rfl (asV rfl) <| .nil0) ?_
    replace h := h.symm
    subst h
    refine .kf [(4, bo false)] rfl rfl ?_
    exact .ret rfl
  · rw [if_neg c5] at h
    refine .condF rfl (nb c5) <| .skip <| .seq <| .seq <| .reg0 rfl (.op 0 rfl (asV rfl) <| .nil0) <| .block <| .keepL [0, 1] [(2, .ptr 0 1 6 0 0), (3, .ptr 1 1 6 0 0), (5, i6 0)] [⟨6, [(TWeight.lit a0)], 0, none⟩, ⟨6, [(TWeight.lit a1)], 0, none⟩] (by decide) (by decide) ⟨.ptr rfl, .ptr rfl, .free rfl rfl, trivial⟩ ⟨⟨_, rfl, bcBox (all2_free rfl)⟩, ⟨_, rfl, bcBox (all2_free rfl)⟩, trivial⟩ ?_
    obtain ⟨o1, hL1, h⟩ := h
    refine .loopB (r05_Same.b1 a0 a1) (fun x1 => listEnv [(2, .ptr 0 1 6 0 0), (3, .ptr 1 1 6 0 0), (5, i6 x1)]) (fun x1 => [⟨6, [(TWeight.lit a0)], 0, none⟩, ⟨6, [(TWeight.lit a1)], 0, none⟩]) (fun _ => listEnv [(2, .ptr 0 1 6 0 0), (3, .ptr 1 1 6 0 0)]) (fun _ => [⟨6, [(TWeight.lit a0)], 0, none⟩, ⟨6, [(TWeight.lit a1)], 0, none⟩]) hL1 (fun r_ => r = r_) ?_ ?_ ?_
    · rintro ⟨⟩ rfl
      try dsimp only [Fin.on] at h
      refine .seq <| .seq <| .reg0 rfl (.op 0 rfl (asV rfl) <| .nil0) <| .block <| .keepL [0, 1] [(2, .ptr 0 1 6 0 0), (3, .ptr 1 1 6 0 0), (6, i6 0)] [⟨6, [(TWeight.lit a0)], 0, none⟩, ⟨6, [(TWeight.lit a1)], 0, none⟩] (by decide) (by decide) ⟨.ptr rfl, .ptr rfl, .free rfl rfl, trivial⟩ ⟨⟨_, rfl, bcBox (all2_free rfl)⟩, ⟨_, rfl, bcBox (all2_free rfl)⟩, trivial⟩ ?_
      obtain ⟨o2, hL2, h⟩ := h
      refine .loopB (r05_Same.b2 self11 a0 a1) (fun x2 => listEnv [(2, .ptr 0 1 6 0 0), (3, .ptr 1 1 6 0 0), (6, i6 x2)]) (fun x2 => [⟨6, [(TWeight.lit a0)], 0, none⟩, ⟨6, [(TWeight.lit a1)], 0, none⟩]) (fun _ => listEnv []) (fun _ => []) hL2 (fun r_ => r = r_) ?_ ?_ ?_
      · rintro ⟨⟩ rfl
        try dsimp only [Fin.on] at h
        refine .seq <| .reg0 rfl (.op 0 rfl (asV rfl) <| .nil0) ?_
        replace h := h.symm
        subst h
        refine .kf [(4, bo true)] rfl rfl ?_
        exact .ret rfl
      · rintro r_ rfl
        exact h
      · rintro x2 z2 h hn2 hx2 hr2
        dsimp only [r05_Same.b2] at h
        refine .seq <| .seq <| .reg0 rfl (.op 0 rfl (mvV rfl) <| .op 0 rfl (faP fa39_4 rfl) <| .op 0 rfl (ldP rfl sz37 ag37 rfl) <| .op 0 rfl (lnR (l := a0.Parts) sl37 rfl) <| .op 0 rfl (ltI rfl rfl) <| .nil0) ?_
        by_cases c16 : x2 < (a0.Parts.length : Int)
        · rw [if_pos c16] at h
          refine .condT rfl (dt c16) <| .skip <| .seq <| .block <| .seq ?_
          obtain ⟨g27_3, h⟩ := h
          obtain ⟨g27_8, h⟩ := h
          obtain ⟨t27_10, g27_10, h⟩ := h
          refine .reg1 (e1 := listEnv [(2, .ptr 0 1 6 0 0), (3, .ptr 1 1 6 0 0), (6, i6 x2), (81, bo (!t27_10))]) (H1 := [⟨6, [(TWeight.lit a0)], 0, none⟩, ⟨6, [(TWeight.lit a1)], 0, none⟩]) rfl ?_ ?_
          · exact .drawM [(11, 81, bo (!t27_10)), (10, 80, bo t27_10), (9, 79, .agg (TWeight.lit (rdl a1.Parts x2))), (8, 78, .cptr (TWeight.lit (rdl a1.Parts x2)) 0), (7, 77, i6 x2), (6, 76, .rows (a1.Parts.map TWeight.cells)), (5, 75, .ptr 1 1 6 0 5), (4, 74, .agg (TWeight.lit (rdl a0.Parts x2))), (3, 73, .cptr (TWeight.lit (rdl a0.Parts x2)) 0), (2, 72, i6 x2), (1, 71, .rows (a0.Parts.map TWeight.cells)), (0, 70, .ptr 0 1 6 0 5)] [] [[], [0], [], [1, 0, 2], [3, 1, 0, 2], [], [5], [], [6, 5, 7], [8, 6, 5, 7], [4, 3, 1, 0, 2, 9, 8, 6, 5, 7], [10, 4, 3, 1, 0, 2, 9, 8, 6, 5, 7]] (by rfl) (by rfl) (by rfl) (by exact ⟨oP (fun _ => faP fa39_4 rfl) rfl, oP (fun _ => ldP rfl sz37 ag37 rfl) rfl, oP (fun _ => mvV rfl) rfl, oP (fun _ => ixR (l := a0.Parts) (lit := TWeight.lit) sl37 rfl rfl TWeight.cells_lit g27_3.1 g27_3.2) rfl, oP (fun _ => ldCG rfl sz39 ag39 rfl) rfl, oP (fun _ => faP fa39_4 rfl) rfl, oP (fun _ => ldP rfl sz37 ag37 rfl) rfl, oP (fun _ => mvV rfl) rfl, oP (fun _ => ixR (l := a1.Parts) (lit := TWeight.lit) sl37 rfl rfl TWeight.cells_lit g27_8.1 g27_8.2) rfl, oP (fun _ => ldCG rfl sz39 ag39 rfl) rfl, fun S hS hD hn => .oneI hS hD hn rfl rfl (callee_of rfl go11 rfl) (.pure rfl rfl (hs11 _ _ _ g27_10)) rfl rfl rfl, oP (fun _ => notB rfl) rfl, trivial⟩) _ (by exact ⟨.ptr rfl, .ptr rfl, .free rfl rfl, .free rfl rfl, trivial⟩) (by rfl)
          by_cases c17 : t27_10 = true
          · rw [if_pos c17] at h
            refine .condF rfl (bnotF c17) <| .skip <| .inBlock <| .reg0 rfl (.op 0 rfl (mvV rfl) <| .op 0 rfl (addI rfl rfl) <| .op 0 rfl (asV rfl) <| .nil0) <| .keepL [0, 1] [(2, .ptr 0 1 6 0 0), (3, .ptr 1 1 6 0 0), (6, i6 (IntKind.i64.wrap (x2 + 1)))] [⟨6, [(TWeight.lit a0)], 0, none⟩, ⟨6, [(TWeight.lit a1)], 0, none⟩] (by decide) (by decide) ⟨.ptr rfl, .ptr rfl, .free rfl rfl, trivial⟩ ⟨⟨_, rfl, bcBox (all2_free rfl)⟩, ⟨_, rfl, bcBox (all2_free rfl)⟩, trivial⟩ ?_
            exact hn2 _ h
          · rw [if_neg c17] at h
            refine .condT rfl (bnotT (nb c17)) <| .seq <| .reg0 rfl (.op 0 rfl (asV rfl) <| .nil0) ?_
            have q6 := hr2 _ h
            replace q6 := q6.symm
            subst q6
            refine .kf [(4, bo false)] rfl rfl ?_
            exact .ret rfl
        · rw [if_neg c16] at h
          refine .condF rfl (df c16) <| .exit rfl <| .keepL [] [] [] (by decide) (by decide) trivial trivial ?_
          exact hx2 _ h
    · rintro r_ rfl
      exact h
    · rintro x1 z1 h hn1 hx1 hr1
      dsimp only [r05_Same.b1] at h
      refine .seq <| .seq <| .reg0 rfl (.op 0 rfl (mvV rfl) <| .op 0 rfl (faP fa39_3 rfl) <| .op 0 rfl (ldP rfl sz36 ag36 rfl) <| .op 0 rfl (lnR (l := a0.Cells) sl36 rfl) <| .op 0 rfl (ltI rfl rfl) <| .nil0) ?_
      by_cases c10 : x1 < (a0.Cells.length : Int)
      · rw [if_pos c10] at h
        refine .condT rfl (dt c10) <| .skip <| .seq <| .block <| .seq ?_
        obtain ⟨g14_3, h⟩ := h
        obtain ⟨g14_8, h⟩ := h
        refine .reg1 (e1 := listEnv [(2, .ptr 0 1 6 0 0), (3, .ptr 1 1 6 0 0), (5, i6 x1), (62, bo (!(((rdl a0.Cells x1).From == (rdl a1.Cells x1).From) && (((rdl a0.Cells x1).Kind == (rdl a1.Cells x1).Kind) && (((rdl a0.Cells x1).K == (rdl a1.Cells x1).K) && true)))))]) (H1 := [⟨6, [(TWeight.lit a0)], 0, none⟩, ⟨6, [(TWeight.lit a1)], 0, none⟩]) rfl ?_ ?_
        · exact .drawM [(10, 62, bo (!(((rdl a0.Cells x1).From == (rdl a1.Cells x1).From) && (((rdl a0.Cells x1).Kind == (rdl a1.Cells x1).Kind) && (((rdl a0.Cells x1).K == (rdl a1.Cells x1).K) && true))))), (9, 61, .agg (TCell.lit (rdl a1.Cells x1))), (8, 60, .cptr (TCell.lit (rdl a1.Cells x1)) 0), (7, 59, i6 x1), (6, 58, .rows (a1.Cells.map TCell.cells)), (5, 57, .ptr 1 1 6 0 4), (4, 56, .agg (TCell.lit (rdl a0.Cells x1))), (3, 55, .cptr (TCell.lit (rdl a0.Cells x1)) 0), (2, 54, i6 x1), (1, 53, .rows (a0.Cells.map TCell.cells)), (0, 52, .ptr 0 1 6 0 4)] [] [[], [0], [], [1, 0, 2], [3, 1, 0, 2], [], [5], [], [6, 5, 7], [8, 6, 5, 7], [4, 3, 1, 0, 2, 9, 8, 6, 5, 7]] (by rfl) (by rfl) (by rfl) (by exact ⟨oP (fun _ => faP fa39_3 rfl) rfl, oP (fun _ => ldP rfl sz36 ag36 rfl) rfl, oP (fun _ => mvV rfl) rfl, oP (fun _ => ixR (l := a0.Cells) (lit := TCell.lit) sl36 rfl rfl (fun _ => rfl) g14_3.1 g14_3.2) rfl, oP (fun _ => ldCG rfl sz81 ag81 rfl) rfl, oP (fun _ => faP fa39_3 rfl) rfl, oP (fun _ => ldP rfl sz36 ag36 rfl) rfl, oP (fun _ => mvV rfl) rfl, oP (fun _ => ixR (l := a1.Cells) (lit := TCell.lit) sl36 rfl rfl (fun _ => rfl) g14_8.1 g14_8.2) rfl, oP (fun _ => ldCG rfl sz81 ag81 rfl) rfl, oP (fun _ => neS (xs := [.int .u64 ((rdl a0.Cells x1).From), .int .i64 ((rdl a0.Cells x1).Kind), .int .i64 ((rdl a0.Cells x1).K)]) (ys := [.int .u64 ((rdl a1.Cells x1).From), .int .i64 ((rdl a1.Cells x1).Kind), .int .i64 ((rdl a1.Cells x1).K)]) ek81 rfl rfl rfl rfl rfl) rfl, trivial⟩) _ (by exact ⟨.ptr rfl, .ptr rfl, .free rfl rfl, .free rfl rfl, trivial⟩) (by rfl)
        by_cases c11 : (((rdl a0.Cells x1).From == (rdl a1.Cells x1).From) && (((rdl a0.Cells x1).Kind == (rdl a1.Cells x1).Kind) && (((rdl a0.Cells x1).K == (rdl a1.Cells x1).K) && true))) = true
        · rw [if_pos c11] at h
          refine .condF rfl (bnotF c11) <| .skip <| .inBlock <| .reg0 rfl (.op 0 rfl (mvV rfl) <| .op 0 rfl (addI rfl rfl) <| .op 0 rfl (asV rfl) <| .nil0) <| .keepL [0, 1] [(2, .ptr 0 1 6 0 0), (3, .ptr 1 1 6 0 0), (5, i6 (IntKind.i64.wrap (x1 + 1)))] [⟨6, [(TWeight.lit a0)], 0, none⟩, ⟨6, [(TWeight.lit a1)], 0, none⟩] (by decide) (by decide) ⟨.ptr rfl, .ptr rfl, .free rfl rfl, trivial⟩ ⟨⟨_, rfl, bcBox (all2_free rfl)⟩, ⟨_, rfl, bcBox (all2_free rfl)⟩, trivial⟩ ?_
          exact hn1 _ h
        · rw [if_neg c11] at h
          refine .condT rfl (bnotT (nb c11)) <| .seq <| .reg0 rfl (.op 0 rfl (asV rfl) <| .nil0) ?_
          have q3 := hr1 _ h
          replace q3 := q3.symm
          subst q3
          refine .kf [(4, bo false)] rfl rfl ?_
          exact .ret rfl
      · rw [if_neg c10] at h
        refine .condF rfl (df c10) <| .exit rfl <| .keepL [0, 1] [(2, .ptr 0 1 6 0 0), (3, .ptr 1 1 6 0 0)] [⟨6, [(TWeight.lit a0)], 0, none⟩, ⟨6, [(TWeight.lit a1)], 0, none⟩] (by decide) (by decide) ⟨.ptr rfl, .ptr rfl, trivial⟩ ⟨⟨_, rfl, bcBox (all2_free rfl)⟩, ⟨_, rfl, bcBox (all2_free rfl)⟩, trivial⟩ ?_
        exact hx1 _ h
def r05_Same.fN : Nat → TWeight → TWeight → Bool → Prop
  | 0 => fun _ _ _ => False
  | n + 1 => r05_Same.step (r05_Same.fN n)
theorem r05_Same.ND : ∀ (n : Nat) {a0 : TWeight} {a1 : TWeight} {r : Bool} (h : r05_Same.fN n a0 a1 r), D Tryz.prog X (.callH 11 [.agg (TWeight.lit a0), .agg (TWeight.lit a1)] [] (.val (.bool r)) [])
  | 0, _, _, _, h => h.elim
  | n + 1, _, _, _, h => r05_Same.stepD (fun _ _ _ h => r05_Same.ND n h) h
def r05_Same.f (a0 : TWeight) (a1 : TWeight) (r : Bool) : Prop := ∃ n, r05_Same.fN n a0 a1 r
theorem r05_Same.D {a0 a1 r} (h : r05_Same.f a0 a1 r) : D Tryz.prog X (.callH 11 [.agg (TWeight.lit a0), .agg (TWeight.lit a1)] [] (.val (.bool r)) []) := by obtain ⟨n, h⟩ := h; exact r05_Same.ND n h
end Go.RM.Tryz
