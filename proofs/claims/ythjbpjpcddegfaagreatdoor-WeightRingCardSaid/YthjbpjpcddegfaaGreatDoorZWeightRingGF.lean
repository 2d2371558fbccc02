/- GF, for the statement WeightRing: what it needs, no more. -/
import Derived.Test.YthjbpjpcddegfaaGreatDoorZWeightRingGE
set_option linter.unusedVariables false
set_option maxRecDepth 8000
set_option maxHeartbeats 4000000
namespace Go.RM.Tryz
open Go.RM Go.Proofs
def facts_checked.b1 (a0 : Int) (a1 : List TFacts) : Int → Rnd Int Unit Int → Prop := fun x1 z1 => if x1 < (a1.length : Int) then (((InR x1 a1.length)) ∧ ∃ t17_2 : Int, (facts_Check.f a0 (rdl a1 x1) t17_2) ∧ if t17_2 = 0 then (z1 = .next (IntKind.i64.wrap (x1 + 1))) else (z1 = .ret t17_2)) else (z1 = .exit ())
def facts_checked.f (a0 : Int) (a1 : List TFacts) (r : Int) : Prop :=
  ∃ o1 : Fin Unit Int, Loop (facts_checked.b1 a0 a1) 0 o1 ∧ o1.on (fun _ => r = 0) (fun r_ => r = r_)
abbrev GF_c0 : List PV := [u6 0, i6 0, i6 0]
abbrev GF_c1 : List PV := [u6 0, i6 2, i6 0]
abbrev GF_c2 : List PV := [bo false, i6 0, u6 0, nul, nul, nul]
abbrev GF_c3 : List PV := [bo false, i6 0, u6 0, .rows (([] : List Int).map (cInt .u64)), .rows (([] : List TCell).map TCell.cells), .rows (([] : List TWeight).map TWeight.cells)]
theorem facts_checked.D {a0 a1 r} (h : facts_checked.f a0 a1 r) : D Tryz.prog X (.callH 122 [.val (.int .i64 a0), .rows (a1.map TFacts.cells)] [] (.val (.int .i64 r)) []) := by
  unfold facts_checked.f at h
  refine .enter 21 0 fn122 q q q<|.seq<|.reg0 q (.o (asV q)<|.nil0)<|.seq<|.seq<|.reg0 q (.o (mvR q)<|.o (lnR (l := a1) sl178 q)<|.o (mvV q)<|.nil0)<|.block<|.keepL [] [(0, i6 a0), (8, .rows (a1.map TFacts.cells)), (9, i6 (a1.length : Int)), (10, i6 0)] [] (by decide) (by decide) ⟨.free q q, .free q q, .free q q, .free q q, trivial⟩ trivial ?_
  obtain ⟨o1, hL1, h⟩ := h
  refine .loopB (facts_checked.b1 a0 a1) (fun x1 => listEnv [(0, i6 a0), (8, .rows (a1.map TFacts.cells)), (9, i6 (a1.length : Int)), (10, i6 x1)]) (fun x1 => []) (fun _ => listEnv []) (fun _ => []) hL1 (fun r_ => r = r_) ?_ ?_ ?_
  · rintro ⟨⟩ rfl
    try dsimp only [Fin.on] at h
    refine .seq<|.reg0 q (.o (asV q)<|.nil0) ?_
    replace h := h.symm
    subst h
    refine .kf [(4, i6 0)] q q ?_
    exact .ret q
  · rintro r_ rfl
    exact h
  · rintro x1 z1 h hn1 hx1 hr1
    dsimp only [facts_checked.b1] at h
    refine .seq<|.reg0 q (.o (ltI q q)<|.nil0)<|.seq ?_
    by_cases c5 : x1 < (a1.length : Int)
    · rw [if_pos c5] at h
      refine .condT q (dt c5)<|.skip<|.seq<|.block<|.seq ?_
      obtain ⟨g16_0, h⟩ := h
      refine .room 0<|.reg0 q (.o (ixR (l := a1) (lit := TFacts.lit) sl178 q q (fun _ => q) g16_0.1 g16_0.2)<|.o (ldCG q sz29 ag29 q)<|.o (alP (s := 2) ze29 ⟨q, by decide, q⟩ q)<|.o (stB (cs0 := [u6 0, nul]) (cs := (TFacts.lit (rdl a1 x1))) (cs1 := (TFacts.lit (rdl a1 x1))) q q sz29 q ⟨Nat.le_of_ble_eq_true q, q⟩ q)<|.nil0)<|.seq ?_
      obtain ⟨t17_2, g17_2, h⟩ := h
      refine .reg0 q (.m q<|.o (ldG q sz29 ag29 q)<|.c q go120 q q q (facts_Check.D g17_2)<|.a q<|.nil0)<|.seq<|.reg0 q (.o (mvV q)<|.o (neI q q)<|.nil0) ?_
      by_cases c6 : t17_2 = 0
      · rw [if_pos c6] at h
        refine .condF q (nf c6)<|.skip<|.inBlock<|.reg0 q (.o (addI q q)<|.o (mvV q)<|.nil0)<|.kf [(0, i6 a0), (8, .rows (a1.map TFacts.cells)), (9, i6 (a1.length : Int)), (10, i6 (IntKind.i64.wrap (x1 + 1)))] q q ?_
        exact hn1 _ h
      · rw [if_neg c6] at h
        refine .condT q (nt c6)<|.seq<|.reg0 q (.o (mvV q)<|.o (asV q)<|.nil0) ?_
        have q3 := hr1 _ h
        replace q3 := q3.symm
        subst q3
        refine .kf [(4, i6 t17_2)] q q ?_
        exact .ret q
    · rw [if_neg c5] at h
      refine .condF q (df c5)<|.exit q<|.keepL [] [] [] (by decide) (by decide) trivial trivial ?_
      exact hx1 _ h
def facts_Combine.b1 (a0 : Int) (a1 : TFacts) (a2 : TFacts) : ((List Int) × Int) → Rnd (((List Int) × Int)) ((List Int)) (TFacts × Int) → Prop := fun (x1, x2) z1 => if x2 < ((List.replicate (Int.toNat a0) (0 : Int)).length : Int) then (((InR x2 a1.Rows.length)) ∧ ((InR x2 a2.Rows.length)) ∧ ((InR x2 x1.length)) ∧ z1 = .next ((setl x1 x2 (bitOp .or .u64 (rdl a1.Rows x2) (rdl a2.Rows x2))), (IntKind.i64.wrap (x2 + 1)))) else (z1 = .exit x1)
def facts_Combine.f (a0 : Int) (a1 : TFacts) (a2 : TFacts) (r : TFacts × Int) : Prop :=
  ∃ t2_4 : Int, (facts_checked.f a0 [a1, a2] t2_4) ∧ if t2_4 = 0 then ((((0 : Int) ≤ a0 ∧ Fits a0 8)) ∧ ∃ o1 : Fin ((List Int)) (TFacts × Int), Loop (facts_Combine.b1 a0 a1 a2) ((List.replicate (Int.toNat a0) (0 : Int)), 0) o1 ∧ o1.on (fun x3 => ∃ t18_1 : TFacts, (facts_canon.f (TFacts.mk (bitOp .or .u64 a1.Gen a2.Gen) x3) t18_1) ∧ r = (t18_1, 0)) (fun r_ => r = r_)) else (r = ((TFacts.mk 0 []), t2_4))
theorem facts_Combine.D {a0 a1 a2 r} (h : facts_Combine.f a0 a1 a2 r) : D Tryz.prog X (.callH 74 [.val (.int .i64 a0), .agg (TFacts.lit a1), .agg (TFacts.lit a2)] [] (.tuple [.agg (TFacts.lit r.1), .val (.int .i64 r.2)]) []) := by
  unfold facts_Combine.f at h
  refine .enter 52 0 fn74 q q q<|.seq<|.room 0<|.room 0<|.room 0<|.reg0 q (.o (bxP (s := 2) (cs := (TFacts.lit a1)) q ⟨q, by decide, q⟩ q)<|.op 1 q (bxP (s := 2) (cs := (TFacts.lit a2)) q ⟨q, by decide, q⟩ q)<|.op 2 q (alP (s := 2) ze29 ⟨q, by decide, q⟩ q)<|.o (asV q)<|.nil0)<|.seq<|.seq ?_
  obtain ⟨t2_4, g2_4, h⟩ := h
  refine .room 0<|.reg0 q (.o (mvV q)<|.o (ldG q sz29 ag29 q)<|.o (ldG q sz29 ag29 q)<|.op 3 q (bldL (s := 2) (cs := [u6 a1.Gen, .rows (a1.Rows.map (cInt .u64)), u6 a2.Gen, .rows (a2.Rows.map (cInt .u64))]) un178 sz29 ze29 ⟨by decide, q, by decide⟩ q q q q)<|.callI q (callee_of q go122 q) (.lendC (args' := [i6 a0, .rows ([a1, a2].map TFacts.cells)])  [3] false (.cons (.free q q)<|.cons (cFixO (l := [a1, a2]) sl178 q q q q)<|.nil) (by decide) q q q q (facts_checked.D g2_4))<|.o (asV q)<|.nil0) ?_
  refine .seq<|.reg0 q (.o (mvV q)<|.o (neI q q)<|.nil0) ?_
  by_cases c1 : t2_4 = 0
  · rw [if_pos c1] at h
    refine .condF q (nf c1)<|.skip<|.seq ?_
    obtain ⟨g4_6, h⟩ := h
    refine .room 0<|.room 0 ?_
    refine .reg1 (e1 := listEnv [(4, .ptr 0 1 2 0 0), (5, .ptr 1 1 2 0 0), (6, .ptr 2 1 2 0 0), (9, .ptr 5 1 2 0 0)]) (H1 := [⟨2, [(TFacts.lit a1)], 0, none⟩, ⟨2, [(TFacts.lit a2)], 0, none⟩, ⟨2, [[u6 0, nul]], 0, none⟩, ⟨2, [a1, a2].map TFacts.cells, 0, none⟩, ⟨1, (List.replicate (Int.toNat a0) (0 : Int)).map (cInt .u64), 0, none⟩, ⟨2, [[u6 (bitOp .or .u64 a1.Gen a2.Gen), .own 4 ((List.replicate (Int.toNat a0) (0 : Int)).length)]], 0, none⟩]) q ?_ ?_
    · exact .drawM [(8, 9, .ptr 5 1 2 0 0), (7, 27, .agg [u6 (bitOp .or .u64 a1.Gen a2.Gen), .own 4 ((List.replicate (Int.toNat a0) (0 : Int)).length)]), (6, 26, .own 4 ((List.replicate (Int.toNat a0) (0 : Int)).length)), (5, 25, i6 a0), (4, 24, u6 (bitOp .or .u64 a1.Gen a2.Gen)), (3, 23, u6 a2.Gen), (2, 22, .ptr 1 1 2 0 0), (1, 21, u6 a1.Gen), (0, 20, .ptr 0 1 2 0 0)] [(9, 5, ⟨2, [[u6 (bitOp .or .u64 a1.Gen a2.Gen), .own 4 ((List.replicate (Int.toNat a0) (0 : Int)).length)]], 0, none⟩), (8, 5, ⟨2, [[u6 0, nul]], 0, none⟩), (6, 4, ⟨1, (List.replicate (Int.toNat a0) (0 : Int)).map (cInt .u64), 0, none⟩)] [[], [0], [], [2], [1, 0, 3, 2], [], [5], [4, 1, 0, 3, 2, 6, 5], [], [8, 7, 4, 1, 0, 3, 2, 6, 5]] (by rfl) (by rfl) (by rfl) (by exact ⟨oP (fun _ => faP fa29_0 q) q, oP (fun _ => ldP q sz26 ag26 q) q, oP (fun _ => faP fa29_0 q) q, oP (fun _ => ldP q sz26 ag26 q) q, oP (fun _ => orI q q) q, oP (fun _ => mvV q) q, oW 4 (fun _ => mkS (z0 := (0 : Int)) sl27 un27 ze26 q q g4_6.1 g4_6.2 q) q fun _ => q, oP (fun _ => bldS (cs := [u6 (bitOp .or .u64 a1.Gen a2.Gen), .own 4 ((List.replicate (Int.toNat a0) (0 : Int)).length)]) ze29 pl29 q q) q, oW 5 (fun _ => alP (s := 2) ze29 ⟨q, by decide, q⟩ q) q fun _ => q, fun S hS hD hn => .one0 0 q q (stB (cs0 := [u6 0, nul]) (cs := [u6 (bitOp .or .u64 a1.Gen a2.Gen), .own 4 ((List.replicate (Int.toNat a0) (0 : Int)).length)]) (cs1 := [u6 (bitOp .or .u64 a1.Gen a2.Gen), .own 4 ((List.replicate (Int.toNat a0) (0 : Int)).length)]) q q sz29 q ⟨Nat.le_of_ble_eq_true q, q⟩ q) (drawE_other _ _ _ _ q) q, trivial⟩) _ (by exact ⟨.ptr q, .ptr q, .ptr q, .ptr q, trivial⟩) (by rfl)
    refine .seq<|.seq<|.reg0 q (.o (faP fa29_1 q)<|.o (ldP q sz27 ag27 q)<|.o (lnO (l := (List.replicate (Int.toNat a0) (0 : Int))) sl27 q q q)<|.o (mvV q)<|.nil0)<|.block<|.keepL [0, 1, 2, 5, 4] [(4, .ptr 0 1 2 0 0), (5, .ptr 1 1 2 0 0), (6, .ptr 2 1 2 0 0), (9, .ptr 3 1 2 0 0), (30, i6 ((List.replicate (Int.toNat a0) (0 : Int)).length : Int)), (31, i6 0)] [⟨2, [(TFacts.lit a1)], 0, none⟩, ⟨2, [(TFacts.lit a2)], 0, none⟩, ⟨2, [[u6 0, nul]], 0, none⟩, ⟨2, [[u6 (bitOp .or .u64 a1.Gen a2.Gen), .own 4 ((List.replicate (Int.toNat a0) (0 : Int)).length)]], 0, none⟩, ⟨1, (List.replicate (Int.toNat a0) (0 : Int)).map (cInt .u64), 0, none⟩] (by decide) (by decide) ⟨.ptr q, .ptr q, .ptr q, .ptr q, .free q q, .free q q, trivial⟩ ⟨⟨_, q, bcBox (all2_free q)⟩, ⟨_, q, bcBox (all2_free q)⟩, ⟨_, q, bcBox (all2_free q)⟩, ⟨_, q, bcBox (.cons (.free q q)<|.cons (.own q)<|.nil)⟩, ⟨_, q, bcRow (l := (List.replicate (Int.toNat a0) (0 : Int))) sl27 (Nat.le_refl _) q⟩, trivial⟩ ?_
    obtain ⟨o1, hL1, h⟩ := h
    refine .loopB (facts_Combine.b1 a0 a1 a2) (fun (x1, x2) => listEnv [(4, .ptr 0 1 2 0 0), (5, .ptr 1 1 2 0 0), (6, .ptr 2 1 2 0 0), (9, .ptr 3 1 2 0 0), (30, i6 ((List.replicate (Int.toNat a0) (0 : Int)).length : Int)), (31, i6 x2)]) (fun (x1, x2) => [⟨2, [(TFacts.lit a1)], 0, none⟩, ⟨2, [(TFacts.lit a2)], 0, none⟩, ⟨2, [[u6 0, nul]], 0, none⟩, ⟨2, [[u6 (bitOp .or .u64 a1.Gen a2.Gen), .own 4 x1.length]], 0, none⟩, ⟨1, x1.map (cInt .u64), 0, none⟩]) (fun x3 => listEnv [(6, .ptr 0 1 2 0 0), (9, .ptr 1 1 2 0 0)]) (fun x3 => [⟨2, [[u6 0, nul]], 0, none⟩, ⟨2, [[u6 (bitOp .or .u64 a1.Gen a2.Gen), .own 2 x3.length]], 0, none⟩, ⟨1, x3.map (cInt .u64), 0, none⟩]) hL1 (fun r_ => r = r_) ?_ ?_ ?_
    · rintro x3 rfl
      try dsimp only [Fin.on] at h
      refine .seq ?_
      obtain ⟨t18_1, g18_1, h⟩ := h
      refine .reg0 q (.o (ldG q sz29 ag29 q)<|.callI q (callee_of q go123 q) (.lendC (args' := [.agg [u6 (bitOp .or .u64 a1.Gen a2.Gen), .rows (x3.map (cInt .u64))]])  [2] true (.cons (cAgg (.cons (.free q q)<|.cons (cFixO (l := x3) sl27 q q q q)<|.nil))<|.nil) (by decide) q q q q (facts_canon.D g18_1))<|.o (stB (cs0 := [u6 0, nul]) (cs := (TFacts.lit t18_1)) (cs1 := (TFacts.lit t18_1)) q q sz29 q ⟨Nat.le_of_ble_eq_true q, q⟩ q)<|.a q<|.nil0) ?_
      replace h := h.symm
      subst h
      refine .k [(6, .cptr (TFacts.lit t18_1) 0), (7, i6 0)] ⟨cFixP q q (.cons (.free q q)<|.cons (.free q q)<|.nil), .free q q, trivial⟩ ?_
      exact .ret q
    · rintro r_ rfl
      exact h
    · rintro ⟨x1, x2⟩ z1 h hn1 hx1 hr1
      dsimp only [facts_Combine.b1] at h
      refine .seq<|.reg0 q (.o (ltI q q)<|.nil0)<|.seq ?_
      by_cases c4 : x2 < ((List.replicate (Int.toNat a0) (0 : Int)).length : Int)
      · rw [if_pos c4] at h
        refine .condT q (dt c4)<|.skip<|.seq<|.block<|.seq<|.reg0 q (.o (mvV q)<|.o (asV q)<|.nil0) ?_
        obtain ⟨g16_6, h⟩ := h
        obtain ⟨g16_11, h⟩ := h
        obtain ⟨g16_14, h⟩ := h
        refine .reg1 (e1 := listEnv [(4, .ptr 0 1 2 0 0), (5, .ptr 1 1 2 0 0), (6, .ptr 2 1 2 0 0), (9, .ptr 3 1 2 0 0), (30, i6 ((List.replicate (Int.toNat a0) (0 : Int)).length : Int)), (31, i6 x2)]) (H1 := [⟨2, [(TFacts.lit a1)], 0, none⟩, ⟨2, [(TFacts.lit a2)], 0, none⟩, ⟨2, [[u6 0, nul]], 0, none⟩, ⟨2, [[u6 (bitOp .or .u64 a1.Gen a2.Gen), .own 4 x1.length]], 0, none⟩, ⟨1, (setl x1 x2 (bitOp .or .u64 (rdl a1.Rows x2) (rdl a2.Rows x2))).map (cInt .u64), 0, none⟩]) q ?_ ?_
        · exact .drawM [(14, 48, .ptr 4 x1.length 1 (Int.toNat x2) 0), (13, 47, u6 (bitOp .or .u64 (rdl a1.Rows x2) (rdl a2.Rows x2))), (12, 46, u6 (rdl a2.Rows x2)), (11, 45, .cptr ((cInt .u64) (rdl a2.Rows x2)) 0), (10, 44, i6 x2), (9, 43, .rows (a2.Rows.map (cInt .u64))), (8, 42, .ptr 1 1 2 0 1), (7, 41, u6 (rdl a1.Rows x2)), (6, 40, .cptr ((cInt .u64) (rdl a1.Rows x2)) 0), (5, 39, i6 x2), (4, 38, .rows (a1.Rows.map (cInt .u64))), (3, 37, .ptr 0 1 2 0 1), (2, 36, i6 x2), (1, 35, .own 4 x1.length), (0, 34, .ptr 3 1 2 0 1)] [(15, 4, ⟨1, (setl x1 x2 (bitOp .or .u64 (rdl a1.Rows x2) (rdl a2.Rows x2))).map (cInt .u64), 0, none⟩)] [[], [0], [], [], [3], [], [4, 3, 5], [6, 4, 3, 5], [], [8], [], [9, 8, 10], [11, 9, 8, 10], [7, 6, 4, 3, 5, 12, 11, 9, 8, 10], [1, 0, 2, 3, 4, 5, 6, 7, 8, 9, 10, 11, 12, 13], [14, 1, 0, 2, 3, 4, 5, 6, 7, 8, 9, 10, 11, 12, 13]] (by rfl) (by rfl) (by rfl) (by exact ⟨oP (fun _ => faP fa29_1 q) q, oP (fun _ => ldP q sz27 ag27 q) q, oP (fun _ => mvV q) q, oP (fun _ => faP fa29_1 q) q, oP (fun _ => ldP q sz27 ag27 q) q, oP (fun _ => mvV q) q, oP (fun _ => ixR (l := a1.Rows) (lit := (cInt .u64)) sl27 q q (fun _ => q) g16_6.1 g16_6.2) q, oP (fun _ => ldC q sz26 ag26 q) q, oP (fun _ => faP fa29_1 q) q, oP (fun _ => ldP q sz27 ag27 q) q, oP (fun _ => mvV q) q, oP (fun _ => ixR (l := a2.Rows) (lit := (cInt .u64)) sl27 q q (fun _ => q) g16_11.1 g16_11.2) q, oP (fun _ => ldC q sz26 ag26 q) q, oP (fun _ => orI q q) q, oP (fun _ => ixO (l := x1) sl27 q q q q g16_14.1 g16_14.2) q, fun S hS hD hn => .one0 0 q q (stO (l := x1) (j := x2) (cs := [u6 (bitOp .or .u64 (rdl a1.Rows x2) (rdl a2.Rows x2))]) (bitOp .or .u64 (rdl a1.Rows x2) (rdl a2.Rows x2)) sl27 q q sz26 q q g16_14.1 g16_14.2 (Nat.zero_le _) ⟨Nat.le_of_ble_eq_true q, q⟩ q) (drawE_other _ _ _ _ q) q, trivial⟩) _ (by exact ⟨.ptr q, .ptr q, .ptr q, .ptr q, .free q q, .free q q, trivial⟩) (by rfl)
        refine .inBlock<|.reg0 q (.o (addI q q)<|.o (mvV q)<|.nil0)<|.keepL [0, 1, 2, 3, 4] [(4, .ptr 0 1 2 0 0), (5, .ptr 1 1 2 0 0), (6, .ptr 2 1 2 0 0), (9, .ptr 3 1 2 0 0), (30, i6 ((List.replicate (Int.toNat a0) (0 : Int)).length : Int)), (31, i6 (IntKind.i64.wrap (x2 + 1)))] [⟨2, [(TFacts.lit a1)], 0, none⟩, ⟨2, [(TFacts.lit a2)], 0, none⟩, ⟨2, [[u6 0, nul]], 0, none⟩, ⟨2, [[u6 (bitOp .or .u64 a1.Gen a2.Gen), .own 4 ((setl x1 x2 (bitOp .or .u64 (rdl a1.Rows x2) (rdl a2.Rows x2))).length)]], 0, none⟩, ⟨1, (setl x1 x2 (bitOp .or .u64 (rdl a1.Rows x2) (rdl a2.Rows x2))).map (cInt .u64), 0, none⟩] (by decide) (by decide) ⟨.ptr q, .ptr q, .ptr q, .ptr q, .free q q, .free q q, trivial⟩ ⟨⟨_, q, bcBox (all2_free q)⟩, ⟨_, q, bcBox (all2_free q)⟩, ⟨_, q, bcBox (all2_free q)⟩, ⟨_, q, bcBox (.cons (.free q q)<|.cons (cOwnE q (by simp only [setl, List.length_set]))<|.nil)⟩, ⟨_, q, bcRow (l := (setl x1 x2 (bitOp .or .u64 (rdl a1.Rows x2) (rdl a2.Rows x2)))) sl27 (Nat.le_refl _) q⟩, trivial⟩ ?_
        exact hn1 _ h
      · rw [if_neg c4] at h
        refine .condF q (df c4)<|.exit q<|.keepL [2, 3, 4] [(6, .ptr 0 1 2 0 0), (9, .ptr 1 1 2 0 0)] [⟨2, [[u6 0, nul]], 0, none⟩, ⟨2, [[u6 (bitOp .or .u64 a1.Gen a2.Gen), .own 2 x1.length]], 0, none⟩, ⟨1, x1.map (cInt .u64), 0, none⟩] (by decide) (by decide) ⟨.ptr q, .ptr q, trivial⟩ ⟨⟨_, q, bcBox (all2_free q)⟩, ⟨_, q, bcBox (.cons (.free q q)<|.cons (.own q)<|.nil)⟩, ⟨_, q, bcRow (l := x1) sl27 (Nat.le_refl _) q⟩, trivial⟩ ?_
        exact hx1 _ h
  · rw [if_neg c1] at h
    refine .condT q (nt c1)<|.seq<|.reg0 q (.o (bldS (cs := [u6 0, nul]) ze29 pl29 q q)<|.o (mvV q)<|.o (stB (cs0 := [u6 0, nul]) (cs := [u6 0, nul]) (cs1 := [u6 0, nul]) q q sz29 q ⟨Nat.le_of_ble_eq_true q, q⟩ q)<|.o (asV q)<|.nil0) ?_
    replace h := h.symm
    subst h
    refine .k [(6, .cptr [u6 0, .rows (([] : List Int).map (cInt .u64))] 0), (7, i6 t2_4)] ⟨cFixP q q (.cons (.free q q)<|.cons (.nil)<|.nil), .free q q, trivial⟩ ?_
    exact .ret q
def cells_two.f (a0 : Int) (a1 : List TCell) (a2 : List TCell) (r : Int) : Prop :=
  ∃ t2_2 : Int, (cells_Check.f a0 a1 t2_2) ∧ if t2_2 = 0 then (∃ t4_2 : Int, (cells_Check.f a0 a2 t4_2) ∧ r = t4_2) else (r = t2_2)
theorem cells_two.D {a0 a1 a2 r} (h : cells_two.f a0 a1 a2 r) : D Tryz.prog X (.callH 124 [.val (.int .i64 a0), .rows (a1.map TCell.cells), .rows (a2.map TCell.cells)] [] (.val (.int .i64 r)) []) := by
  unfold cells_two.f at h
  refine .enter 17 0 fn124 q q q<|.seq<|.reg0 q (.o (asV q)<|.nil0)<|.seq<|.seq ?_
  obtain ⟨t2_2, g2_2, h⟩ := h
  refine .reg0 q (.m q<|.o (mvR q)<|.c q go121 q q q (cells_Check.D g2_2)<|.a q<|.nil0)<|.seq<|.reg0 q (.o (mvV q)<|.o (neI q q)<|.nil0) ?_
  by_cases c1 : t2_2 = 0
  · rw [if_pos c1] at h
    refine .condF q (nf c1)<|.skip<|.seq ?_
    obtain ⟨t4_2, g4_2, h⟩ := h
    refine .reg0 q (.m q<|.o (mvR q)<|.c q go121 q q q (cells_Check.D g4_2)<|.a q<|.nil0) ?_
    replace h := h.symm
    subst h
    refine .kf [(6, i6 t4_2)] q q ?_
    exact .ret q
  · rw [if_neg c1] at h
    refine .condT q (nt c1)<|.seq<|.reg0 q (.o (mvV q)<|.o (asV q)<|.nil0) ?_
    replace h := h.symm
    subst h
    refine .kf [(6, i6 t2_2)] q q ?_
    exact .ret q
def cells_both.f (a0 : TCell) (a1 : TCell) (r : TCell) : Prop :=
  if a0.Kind = 0 then (if a1.Kind = 2 then (r = (TCell.mk 0 2 0)) else (r = (TCell.mk (bitOp .or .u64 a0.From a1.From) a1.Kind a1.K))) else (if ((!(a1.Kind == 0)) && ((!(a0.Kind == a1.Kind)) || (a0.K != a1.K))) = true then (if (2 : Int) = 2 then (r = (TCell.mk 0 2 0)) else (r = (TCell.mk (bitOp .or .u64 a0.From a1.From) 2 a0.K))) else (if a0.Kind = 2 then (r = (TCell.mk 0 2 0)) else (r = (TCell.mk (bitOp .or .u64 a0.From a1.From) a0.Kind a0.K))))
theorem cells_both.D {a0 a1 r} (h : cells_both.f a0 a1 r) : D Tryz.prog X (.callH 125 [.agg (TCell.lit a0), .agg (TCell.lit a1)] [] (.agg (TCell.lit r)) []) := by
  unfold cells_both.f at h
  refine .enter 48 0 fn125 q q q<|.seq<|.room 0<|.room 0<|.room 0<|.reg0 q (.o (bxP (s := 3) (cs := (TCell.lit a0)) q ⟨q, by decide, q⟩ q)<|.op 1 q (bxP (s := 3) (cs := (TCell.lit a1)) q ⟨q, by decide, q⟩ q)<|.op 2 q (alP (s := 3) ze74 ⟨q, by decide, q⟩ q)<|.nil0)<|.seq<|.room 0<|.reg0 q (.o (faP fa74_0 q)<|.o (ldP q sz26 ag26 q)<|.o (faP fa74_0 q)<|.o (ldP q sz26 ag26 q)<|.o (orI q q)<|.o (faP fa74_1 q)<|.o (ldP q sz72 ag72 q)<|.o (faP fa74_2 q)<|.o (ldP q sz2 ag2 q)<|.o (bldS (cs := [u6 (bitOp .or .u64 a0.From a1.From), i6 a0.Kind, i6 a0.K]) ze74 pl74 q q)<|.op 3 q (alP (s := 3) ze74 ⟨q, by decide, q⟩ q)<|.o (stB (cs0 := GF_c0) (cs := [u6 (bitOp .or .u64 a0.From a1.From), i6 a0.Kind, i6 a0.K]) (cs1 := [u6 (bitOp .or .u64 a0.From a1.From), i6 a0.Kind, i6 a0.K]) q q sz74 q ⟨Nat.le_of_ble_eq_true q, q⟩ q)<|.nil0) ?_
  refine .seq<|.seq<|.reg0 q (.o (faP fa74_1 q)<|.o (ldP q sz72 ag72 q)<|.o (eqI q q)<|.nil0) ?_
  by_cases c1 : a0.Kind = 0
  · rw [if_pos c1] at h
    refine .condT q (bt c1) ?_
    refine .reg1 (e1 := listEnv [(4, .ptr 2 1 3 0 0), (5, .ptr 3 1 3 0 0)]) (H1 := [⟨3, [(TCell.lit a0)], 0, none⟩, ⟨3, [(TCell.lit a1)], 0, none⟩, ⟨3, [GF_c0], 0, none⟩, ⟨3, [[u6 (bitOp .or .u64 a0.From a1.From), i6 a1.Kind, i6 a1.K]], 0, none⟩]) q ?_ ?_
    · exact .drawM [(6, 24, .ptr 3 1 3 0 2), (4, 23, .ptr 3 1 3 0 1), (3, 22, i6 a1.K), (2, 21, .ptr 1 1 3 0 2), (1, 20, i6 a1.Kind), (0, 19, .ptr 1 1 3 0 1)] [(7, 3, ⟨3, [[u6 (bitOp .or .u64 a0.From a1.From), i6 a1.Kind, i6 a1.K]], 0, none⟩), (5, 3, ⟨3, [[u6 (bitOp .or .u64 a0.From a1.From), i6 a1.Kind, i6 a0.K]], 0, none⟩)] [[], [0], [], [2], [0, 1], [4, 0, 1], [0, 1, 2, 3, 4, 5], [6, 0, 1, 2, 3, 4, 5]] (by rfl) (by rfl) (by rfl) (by exact ⟨oP (fun _ => faP fa74_1 q) q, oP (fun _ => ldP q sz72 ag72 q) q, oP (fun _ => faP fa74_2 q) q, oP (fun _ => ldP q sz2 ag2 q) q, oP (fun _ => faP fa74_1 q) q, fun S hS hD hn => .one0 0 q q (stB (cs0 := [u6 (bitOp .or .u64 a0.From a1.From), i6 a0.Kind, i6 a0.K]) (cs := [i6 a1.Kind]) (cs1 := [u6 (bitOp .or .u64 a0.From a1.From), i6 a1.Kind, i6 a0.K]) q q sz72 q ⟨Nat.le_of_ble_eq_true q, q⟩ q) (drawE_other _ _ _ _ q) q, oP (fun _ => faP fa74_2 q) q, fun S hS hD hn => .one0 0 q q (stB (cs0 := [u6 (bitOp .or .u64 a0.From a1.From), i6 a1.Kind, i6 a0.K]) (cs := [i6 a1.K]) (cs1 := [u6 (bitOp .or .u64 a0.From a1.From), i6 a1.Kind, i6 a1.K]) q q sz2 q ⟨Nat.le_of_ble_eq_true q, q⟩ q) (drawE_other _ _ _ _ q) q, trivial⟩) _ (by exact ⟨.ptr q, .ptr q, trivial⟩) (by rfl)
    refine .seq<|.seq<|.reg0 q (.o (faP fa74_1 q)<|.o (ldP q sz72 ag72 q)<|.o (eqI q q)<|.nil0) ?_
    by_cases c2 : a1.Kind = 2
    · rw [if_pos c2] at h
      refine .condT q (bt c2)<|.seq<|.reg0 q (.o (bldS (cs := GF_c1) ze74 pl74 q q)<|.o (stB (cs0 := GF_c0) (cs := GF_c1) (cs1 := GF_c1) q q sz74 q ⟨Nat.le_of_ble_eq_true q, q⟩ q)<|.nil0) ?_
      replace h := h.symm
      subst h
      refine .k [(4, .cptr GF_c1 0)] ⟨cFixP q q (.cons (.free q q)<|.cons (.free q q)<|.cons (.free q q)<|.nil), trivial⟩ ?_
      exact .ret q
    · rw [if_neg c2] at h
      refine .condF q (bn c2)<|.skip<|.seq<|.reg0 q (.o (ldG q sz74 ag74 q)<|.o (stB (cs0 := GF_c0) (cs := [u6 (bitOp .or .u64 a0.From a1.From), i6 a1.Kind, i6 a1.K]) (cs1 := [u6 (bitOp .or .u64 a0.From a1.From), i6 a1.Kind, i6 a1.K]) q q sz74 q ⟨Nat.le_of_ble_eq_true q, q⟩ q)<|.nil0) ?_
      replace h := h.symm
      subst h
      refine .k [(4, .cptr [u6 (bitOp .or .u64 a0.From a1.From), i6 a1.Kind, i6 a1.K] 0)] ⟨cFixP q q (.cons (.free q q)<|.cons (.free q q)<|.cons (.free q q)<|.nil), trivial⟩ ?_
      exact .ret q
  · rw [if_neg c1] at h
    refine .condF q (bn c1)<|.seq ?_
    refine .reg0 (e1 := listEnv [(4, .ptr 2 1 3 0 0), (5, .ptr 3 1 3 0 0), (41, bo ((!(a1.Kind == 0)) && ((!(a0.Kind == a1.Kind)) || (a0.K != a1.K))))]) (H1 := [⟨3, [(TCell.lit a0)], 0, none⟩, ⟨3, [(TCell.lit a1)], 0, none⟩, ⟨3, [GF_c0], 0, none⟩, ⟨3, [[u6 (bitOp .or .u64 a0.From a1.From), i6 a0.Kind, i6 a0.K]], 0, none⟩]) q ?_ ?_
    · refine .o (faP fa74_1 q)<|.o (ldP q sz72 ag72 q)<|.o (neI q q)<|.m q<|?_
      by_cases c3 : a1.Kind = 0
      · exact (.n q (nf c3)<|.n q (nf c3)<|.n q (nf c3)<|.n q (nf c3)<|.n q (nf c3)<|.n q (nf c3)<|.u q<|.u q<|.u q<|.u q<|.u q<|.n q (nf c3)<|.o (pkFV q (nf c3) q)<|.nilL _ ⟨.ptr q, .ptr q, cB q (mAndF (bnotF (bt c3))), trivial⟩)
      · refine .g q (nt c3) (faP fa74_1 q)<|.g q (nt c3) (ldP q sz72 ag72 q)<|.g q (nt c3) (faP fa74_1 q)<|.g q (nt c3) (ldP q sz72 ag72 q)<|.g q (nt c3) (neI q q)<|.g q (nt c3) (mvV q)<|?_
        by_cases c4 : a0.Kind = a1.Kind
        · exact (.g q (nf c4) (faP fa74_2 q)<|.g q (nf c4) (ldP q sz2 ag2 q)<|.g q (nf c4) (faP fa74_2 q)<|.g q (nf c4) (ldP q sz2 ag2 q)<|.g q (nf c4) (neI q q)<|.g q (nt c3) (pkFV q (nf c4) q)<|.o (pkTV q (nt c3) q)<|.nilL _ ⟨.ptr q, .ptr q, cB q (mAndT (bnotT (bn c3)) (mOrF (bnotF (bt c4)) q)), trivial⟩)
        · exact (.n q (nt c4)<|.n q (nt c4)<|.n q (nt c4)<|.n q (nt c4)<|.n q (nt c4)<|.g q (nt c3) (pkTV q (nt c4) q)<|.o (pkTV q (nt c3) q)<|.nilL _ ⟨.ptr q, .ptr q, cB q (mAndT (bnotT (bn c3)) (mOrT (bnotT (bn c4)))), trivial⟩)
    by_cases c5 : ((!(a1.Kind == 0)) && ((!(a0.Kind == a1.Kind)) || (a0.K != a1.K))) = true
    · rw [if_pos c5] at h
      refine .condT q c5<|.reg0 q (.o (faP fa74_1 q)<|.o (stB (cs0 := [u6 (bitOp .or .u64 a0.From a1.From), i6 a0.Kind, i6 a0.K]) (cs := [i6 2]) (cs1 := [u6 (bitOp .or .u64 a0.From a1.From), i6 2, i6 a0.K]) q q sz72 q ⟨Nat.le_of_ble_eq_true q, q⟩ q)<|.nil0)<|.seq<|.seq<|.reg0 q (.o (faP fa74_1 q)<|.o (ldP q sz72 ag72 q)<|.o (eqI q q)<|.nil0) ?_
      by_cases c6 : (2 : Int) = 2
      · rw [if_pos c6] at h
        refine .condT q (bt c6)<|.seq<|.reg0 q (.o (bldS (cs := GF_c1) ze74 pl74 q q)<|.o (stB (cs0 := GF_c0) (cs := GF_c1) (cs1 := GF_c1) q q sz74 q ⟨Nat.le_of_ble_eq_true q, q⟩ q)<|.nil0) ?_
        replace h := h.symm
        subst h
        refine .k [(4, .cptr GF_c1 0)] ⟨cFixP q q (.cons (.free q q)<|.cons (.free q q)<|.cons (.free q q)<|.nil), trivial⟩ ?_
        exact .ret q
      · rw [if_neg c6] at h
        refine .condF q (bn c6)<|.skip<|.seq<|.reg0 q (.o (ldG q sz74 ag74 q)<|.o (stB (cs0 := GF_c0) (cs := [u6 (bitOp .or .u64 a0.From a1.From), i6 2, i6 a0.K]) (cs1 := [u6 (bitOp .or .u64 a0.From a1.From), i6 2, i6 a0.K]) q q sz74 q ⟨Nat.le_of_ble_eq_true q, q⟩ q)<|.nil0) ?_
        replace h := h.symm
        subst h
        refine .k [(4, .cptr [u6 (bitOp .or .u64 a0.From a1.From), i6 2, i6 a0.K] 0)] ⟨cFixP q q (.cons (.free q q)<|.cons (.free q q)<|.cons (.free q q)<|.nil), trivial⟩ ?_
        exact .ret q
    · rw [if_neg c5] at h
      refine .condF q (nb c5)<|.skip<|.seq<|.seq<|.reg0 q (.o (faP fa74_1 q)<|.o (ldP q sz72 ag72 q)<|.o (eqI q q)<|.nil0) ?_
      by_cases c7 : a0.Kind = 2
      · rw [if_pos c7] at h
        refine .condT q (bt c7)<|.seq<|.reg0 q (.o (bldS (cs := GF_c1) ze74 pl74 q q)<|.o (stB (cs0 := GF_c0) (cs := GF_c1) (cs1 := GF_c1) q q sz74 q ⟨Nat.le_of_ble_eq_true q, q⟩ q)<|.nil0) ?_
        replace h := h.symm
        subst h
        refine .k [(4, .cptr GF_c1 0)] ⟨cFixP q q (.cons (.free q q)<|.cons (.free q q)<|.cons (.free q q)<|.nil), trivial⟩ ?_
        exact .ret q
      · rw [if_neg c7] at h
        refine .condF q (bn c7)<|.skip<|.seq<|.reg0 q (.o (ldG q sz74 ag74 q)<|.o (stB (cs0 := GF_c0) (cs := [u6 (bitOp .or .u64 a0.From a1.From), i6 a0.Kind, i6 a0.K]) (cs1 := [u6 (bitOp .or .u64 a0.From a1.From), i6 a0.Kind, i6 a0.K]) q q sz74 q ⟨Nat.le_of_ble_eq_true q, q⟩ q)<|.nil0) ?_
        replace h := h.symm
        subst h
        refine .k [(4, .cptr [u6 (bitOp .or .u64 a0.From a1.From), i6 a0.Kind, i6 a0.K] 0)] ⟨cFixP q q (.cons (.free q q)<|.cons (.free q q)<|.cons (.free q q)<|.nil), trivial⟩ ?_
        exact .ret q
def cells_Both.b1 (a0 : Int) (a1 : List TCell) (a2 : List TCell) : ((List TCell) × Int) → Rnd (((List TCell) × Int)) ((List TCell)) ((List TCell) × Int) → Prop := fun (x2, x3) z1 => if x3 < a0 then (((InR x3 a1.length)) ∧ ((InR x3 a2.length)) ∧ ∃ t16_9 : TCell, (cells_both.f (rdl a1 x3) (rdl a2 x3) t16_9) ∧ ((Fits (x2.length + 1) 24)) ∧ z1 = .next ((x2 ++ [t16_9]), (IntKind.i64.wrap (x3 + 1)))) else (z1 = .exit x2)
def cells_Both.f (a0 : Int) (a1 : List TCell) (a2 : List TCell) (r : (List TCell) × Int) : Prop :=
  ∃ t2_3 : Int, (cells_two.f a0 a1 a2 t2_3) ∧ if t2_3 = 0 then (∃ o1 : Fin ((List TCell)) ((List TCell) × Int), Loop (cells_Both.b1 a0 a1 a2) ([], 0) o1 ∧ o1.on (fun x4 => r = (x4, 0)) (fun r_ => r = r_)) else (r = ([], t2_3))
theorem cells_Both.D {a0 a1 a2 r} (h : cells_Both.f a0 a1 a2 r) : D Tryz.prog X (.callH 75 [.val (.int .i64 a0), .rows (a1.map TCell.cells), .rows (a2.map TCell.cells)] [] (.tuple [.rows (r.1.map TCell.cells), .val (.int .i64 r.2)]) []) := by
  unfold cells_Both.f at h
  refine .enter 36 0 fn75 q q q<|.seq<|.reg0 q (.o (asV q)<|.o (asV q)<|.nil0)<|.seq<|.seq ?_
  obtain ⟨t2_3, g2_3, h⟩ := h
  refine .reg0 q (.m q<|.o (mvR q)<|.o (mvR q)<|.c q go124 q q q (cells_two.D g2_3)<|.a q<|.nil0)<|.seq<|.reg0 q (.o (mvV q)<|.o (neI q q)<|.nil0) ?_
  by_cases c1 : t2_3 = 0
  · rw [if_pos c1] at h
    refine .condF q (nf c1)<|.skip<|.seq<|.reg0 q (.o (asV q)<|.nil0)<|.seq<|.seq<|.reg0 q (.o (mvV q)<|.o (mvV q)<|.nil0)<|.block<|.room 3<|.keepL [0] [(1, .rows (a1.map TCell.cells)), (2, .rows (a2.map TCell.cells)), (9, .own 0 0), (18, i6 a0), (19, i6 0)] [⟨3, [].map TCell.cells, 0, none⟩] (by decide) (by decide) ⟨.free q q, .free q q, .nilOwn, .free q q, .free q q, trivial⟩ ⟨⟨_, q, (bcRow (l := []) sl30 (Nat.le_refl _) q)⟩, trivial⟩ ?_
    obtain ⟨o1, hL1, h⟩ := h
    refine .loopB (cells_Both.b1 a0 a1 a2) (fun (x2, x3) => listEnv [(1, .rows (a1.map TCell.cells)), (2, .rows (a2.map TCell.cells)), (9, .own 0 x2.length), (18, i6 a0), (19, i6 x3)]) (fun (x2, x3) => [⟨3, x2.map TCell.cells, 0, none⟩]) (fun x4 => listEnv [(9, .own 0 x4.length)]) (fun x4 => [⟨3, x4.map TCell.cells, 0, none⟩]) hL1 (fun r_ => r = r_) ?_ ?_ ?_
    · rintro x4 rfl
      try dsimp only [Fin.on] at h
      refine .seq<|.reg0 q (.o (mvO q)<|.o (asO q)<|.o (asV q)<|.nil0) ?_
      replace h := h.symm
      subst h
      refine .k [(6, .rows (x4.map TCell.cells)), (7, i6 0)] ⟨cFixO (l := x4) sl30 q q q q, .free q q, trivial⟩ ?_
      exact .ret q
    · rintro r_ rfl
      exact h
    · rintro ⟨x2, x3⟩ z1 h hn1 hx1 hr1
      dsimp only [cells_Both.b1] at h
      refine .seq<|.reg0 q (.o (ltI q q)<|.nil0)<|.seq ?_
      by_cases c4 : x3 < a0
      · rw [if_pos c4] at h
        refine .condT q (dt c4)<|.skip<|.seq<|.block<|.seq<|.reg0 q (.o (mvV q)<|.o (asV q)<|.nil0) ?_
        obtain ⟨g16_3, h⟩ := h
        obtain ⟨g16_7, h⟩ := h
        obtain ⟨t16_9, g16_9, h⟩ := h
        obtain ⟨g16_11, h⟩ := h
        refine .room 0<|.room 0 ?_
        refine .reg1 (e1 := listEnv [(1, .rows (a1.map TCell.cells)), (2, .rows (a2.map TCell.cells)), (9, .own 0 ((x2 ++ [t16_9]).length)), (18, i6 a0), (19, i6 x3)]) (H1 := [⟨3, (x2 ++ [t16_9]).map TCell.cells, 0, none⟩, ⟨3, [t16_9].map TCell.cells, 0, none⟩, Blk.hole]) q ?_ ?_
        · exact .drawM [(12, 9, .own 0 ((x2 ++ [t16_9]).length)), (11, 33, .own 0 ((x2 ++ [t16_9]).length)), (10, 32, .own 1 ([t16_9].length)), (9, 31, .agg (TCell.lit t16_9)), (8, 30, .agg (TCell.lit (rdl a2 x3))), (7, 29, .cptr (TCell.lit (rdl a2 x3)) 0), (6, 28, i6 x3), (5, 27, .rows (a2.map TCell.cells)), (4, 26, .agg (TCell.lit (rdl a1 x3))), (3, 25, .cptr (TCell.lit (rdl a1 x3)) 0), (2, 24, i6 x3), (1, 23, .rows (a1.map TCell.cells)), (0, 22, .own 0 x2.length)] [(11, 0, ⟨3, (x2 ++ [t16_9]).map TCell.cells, 0, none⟩), (10, 1, ⟨3, [t16_9].map TCell.cells, 0, none⟩)] [[], [], [], [1, 2], [3, 1, 2], [], [], [5, 6], [7, 5, 6], [4, 3, 1, 2, 8, 7, 5, 6], [9, 4, 3, 1, 2, 8, 7, 5, 6], [0, 10, 9, 4, 3, 1, 2, 8, 7, 5, 6], [11, 0, 10, 9, 4, 3, 1, 2, 8, 7, 5, 6]] (by rfl) (by rfl) (by rfl) (by exact ⟨oP (fun _ => mvO q) q, oP (fun _ => mvR q) q, oP (fun _ => mvV q) q, oP (fun _ => ixR (l := a1) (lit := TCell.lit) sl30 q q (fun _ => q) g16_3.1 g16_3.2) q, oP (fun _ => ldCG q sz74 ag74 q) q, oP (fun _ => mvR q) q, oP (fun _ => mvV q) q, oP (fun _ => ixR (l := a2) (lit := TCell.lit) sl30 q q (fun _ => q) g16_7.1 g16_7.2) q, oP (fun _ => ldCG q sz74 ag74 q) q, fun S hS hD hn => .oneI hS hD hn q q (callee_of q go125 q) (.pure q q (cells_both.D g16_9)) q q q, oW 1 (fun _ => bldL (s := 3) (cs := [u6 t16_9.From, i6 t16_9.Kind, i6 t16_9.K]) un30 sz74 ze74 ⟨by decide, q, by decide⟩ q q q q) q fun _ => q, oW 0 (fun _ => ap1 (l := x2) t16_9 sl30 q q q (Nat.zero_le _) (elems_own (l := [t16_9]) q q) g16_11) q fun _ => q, oP (fun _ => asO q) q, trivial⟩) _ (by exact ⟨.free q q, .free q q, .own q, .free q q, .free q q, trivial⟩) (by rfl)
        refine .inBlock<|.reg0 q (.o (addI q q)<|.o (mvV q)<|.nil0)<|.keepL [0] [(1, .rows (a1.map TCell.cells)), (2, .rows (a2.map TCell.cells)), (9, .own 0 ((x2 ++ [t16_9]).length)), (18, i6 a0), (19, i6 (IntKind.i64.wrap (x3 + 1)))] [⟨3, (x2 ++ [t16_9]).map TCell.cells, 0, none⟩] (by decide) (by decide) ⟨.free q q, .free q q, .own q, .free q q, .free q q, trivial⟩ ⟨⟨_, q, bcRow (l := (x2 ++ [t16_9])) sl30 (Nat.le_refl _) q⟩, trivial⟩ ?_
        exact hn1 _ h
      · rw [if_neg c4] at h
        refine .condF q (df c4)<|.exit q<|.keepL [0] [(9, .own 0 x2.length)] [⟨3, x2.map TCell.cells, 0, none⟩] (by decide) (by decide) ⟨.own q, trivial⟩ ⟨⟨_, q, bcRow (l := x2) sl30 (Nat.le_refl _) q⟩, trivial⟩ ?_
        exact hx1 _ h
  · rw [if_neg c1] at h
    refine .condT q (nt c1)<|.seq<|.reg0 q (.o (mvV q)<|.o (asV q)<|.o (asV q)<|.nil0) ?_
    replace h := h.symm
    subst h
    refine .k [(6, .rows (([] : List TCell).map TCell.cells)), (7, i6 t2_3)] ⟨.nil, .free q q, trivial⟩ ?_
    exact .ret q
def weight_either.step (self44 : TSpace → TWeight → TWeight → TWeight → Prop) (a0 : TSpace) (a1 : TWeight) (a2 : TWeight) (r : TWeight) : Prop :=
  if a1.Zero = true then (r = a2) else (if a2.Zero = true then (r = a1) else (if a0.Tag = 2 then (∃ t9_7 : Int × Int, (cost_Least.f a0.Dim [a1.Cost, a2.Cost] t9_7) ∧ r = (TWeight.mk false t9_7.1 (TFacts.mk 0 []) [] [])) else (if a0.Tag = 3 then (∃ t12_6 : TFacts × Int, (facts_Combine.f a0.Dim a1.Facts a2.Facts t12_6) ∧ r = (TWeight.mk false 0 t12_6.1 [] [])) else (if a0.Tag = 4 then (∃ t15_6 : (List TCell) × Int, (cells_Both.f a0.Dim a1.Cells a2.Cells t15_6) ∧ r = (TWeight.mk false 0 (TFacts.mk 0 []) t15_6.1 [])) else (if a0.Tag = 5 then (((InR 0 a0.Parts.length)) ∧ ((InR 0 a1.Parts.length)) ∧ ((InR 0 a2.Parts.length)) ∧ ∃ t18_12 : TWeight, (self44 (rdl a0.Parts 0) (rdl a1.Parts 0) (rdl a2.Parts 0) t18_12) ∧ ((InR 1 a0.Parts.length)) ∧ ((InR 1 a1.Parts.length)) ∧ ((InR 1 a2.Parts.length)) ∧ ∃ t18_25 : TWeight, (self44 (rdl a0.Parts 1) (rdl a1.Parts 1) (rdl a2.Parts 1) t18_25) ∧ r = (TWeight.mk false 0 (TFacts.mk 0 []) [] [t18_12, t18_25])) else (r = (TWeight.mk false 0 (TFacts.mk 0 []) [] [])))))))
theorem weight_either.stepD {self44 : TSpace → TWeight → TWeight → TWeight → Prop} {a0 : TSpace} {a1 : TWeight} {a2 : TWeight} (hs44 : ∀ z0_ z1_ z2_ r_, self44 z0_ z1_ z2_ r_ → D Tryz.prog X (.callH 44 [.agg (TSpace.lit z0_), .agg (TWeight.lit z1_), .agg (TWeight.lit z2_)] [] (.agg (TWeight.lit r_)) [])) {r : TWeight} (h : weight_either.step self44 a0 a1 a2 r) : D Tryz.prog X (.callH 44 [.agg (TSpace.lit a0), .agg (TWeight.lit a1), .agg (TWeight.lit a2)] [] (.agg (TWeight.lit r)) []) := by
  unfold weight_either.step at h
  refine .enter 87 0 fn44 q q q<|.seq<|.room 0<|.room 0<|.room 0<|.room 0<|.reg0 q (.o (bxP (s := 3) (cs := (TSpace.lit a0)) q ⟨q, by decide, q⟩ q)<|.op 1 q (bxP (s := 6) (cs := (TWeight.lit a1)) q ⟨q, by decide, q⟩ q)<|.op 2 q (bxP (s := 6) (cs := (TWeight.lit a2)) q ⟨q, by decide, q⟩ q)<|.op 3 q (alP (s := 6) ze33 ⟨q, by decide, q⟩ q)<|.nil0) ?_
  refine .seq<|.seq<|.reg0 q (.o (faP fa33_0 q)<|.o (ldP q sz4 ag4 q)<|.nil0) ?_
  by_cases c1 : a1.Zero = true
  · rw [if_pos c1] at h
    refine .condT q c1<|.seq<|.reg0 q (.o (ldG q sz33 ag33 q)<|.o (stB (cs0 := GF_c2) (cs := (TWeight.lit a2)) (cs1 := (TWeight.lit a2)) q q sz33 q ⟨Nat.le_of_ble_eq_true q, q⟩ q)<|.nil0) ?_
    replace h := h.symm
    subst h
    refine .k [(6, .cptr (TWeight.lit a2) 0)] ⟨cFixP q q (.cons (.free q q)<|.cons (.free q q)<|.cons (.free q q)<|.cons (.free q q)<|.cons (.free q q)<|.cons (.free q q)<|.nil), trivial⟩ ?_
    exact .ret q
  · rw [if_neg c1] at h
    refine .condF q (nb c1)<|.skip<|.seq<|.seq<|.reg0 q (.o (faP fa33_0 q)<|.o (ldP q sz4 ag4 q)<|.nil0) ?_
    by_cases c2 : a2.Zero = true
    · rw [if_pos c2] at h
      refine .condT q c2<|.seq<|.reg0 q (.o (ldG q sz33 ag33 q)<|.o (stB (cs0 := GF_c2) (cs := (TWeight.lit a1)) (cs1 := (TWeight.lit a1)) q q sz33 q ⟨Nat.le_of_ble_eq_true q, q⟩ q)<|.nil0) ?_
      replace h := h.symm
      subst h
      refine .k [(6, .cptr (TWeight.lit a1) 0)] ⟨cFixP q q (.cons (.free q q)<|.cons (.free q q)<|.cons (.free q q)<|.cons (.free q q)<|.cons (.free q q)<|.cons (.free q q)<|.nil), trivial⟩ ?_
      exact .ret q
    · rw [if_neg c2] at h
      refine .condF q (nb c2)<|.skip<|.seq<|.room 0<|.reg0 q (.op 4 q (alP (s := 6) ze33 ⟨q, by decide, q⟩ q)<|.nil0)<|.seq<|.seq<|.reg0 q (.o (faP fa25_0 q)<|.o (ldP q sz22 ag22 q)<|.nil0)<|.block<|.seq<|.reg0 q (.o (eqI q q)<|.o (asV q)<|.nil0) ?_
      by_cases c3 : a0.Tag = 2
      · rw [if_pos c3] at h
        refine .condT q (bt c3) ?_
        obtain ⟨t9_7, g9_7, h⟩ := h
        refine .room 0<|.reg0 q (.o (faP fa25_1 q)<|.o (ldP q sz3 ag3 q)<|.o (faP fa33_1 q)<|.o (ldP q sz3 ag3 q)<|.o (faP fa33_1 q)<|.o (ldP q sz3 ag3 q)<|.op 5 q (bldL (s := 1) (cs := [i6 a1.Cost, i6 a2.Cost]) un152 sz3 ze3 ⟨by decide, q, by decide⟩ q q q q)<|.callI q (callee_of q go73 q) (.lendC (args' := [i6 a0.Dim, .rows ([a1.Cost, a2.Cost].map (cInt .i64))])  [5] false (.cons (.free q q)<|.cons (cFixO (l := [a1.Cost, a2.Cost]) sl152 q q q q)<|.nil) (by decide) q q q q (cost_Least.D g9_7))<|.o (mvT q)<|.o (exT q q)<|.o (exT q q)<|.o (faP fa33_1 q)<|.o (stB (cs0 := GF_c2) (cs := [i6 t9_7.1]) (cs1 := [bo false, i6 t9_7.1, u6 0, nul, nul, nul]) q q sz3 q ⟨Nat.le_of_ble_eq_true q, q⟩ q)<|.nil0) ?_
        refine .inBlock<|.seq<|.reg0 q (.o (ldG q sz33 ag33 q)<|.o (stB (cs0 := GF_c2) (cs := [bo false, i6 t9_7.1, u6 0, nul, nul, nul]) (cs1 := [bo false, i6 t9_7.1, u6 0, nul, nul, nul]) q q sz33 q ⟨Nat.le_of_ble_eq_true q, q⟩ q)<|.nil0) ?_
        replace h := h.symm
        subst h
        refine .k [(6, .cptr [bo false, i6 t9_7.1, u6 0, .rows (([] : List Int).map (cInt .u64)), .rows (([] : List TCell).map TCell.cells), .rows (([] : List TWeight).map TWeight.cells)] 0)] ⟨cFixP q q (.cons (.free q q)<|.cons (.free q q)<|.cons (.free q q)<|.cons (.nil)<|.cons (.nil)<|.cons (.nil)<|.nil), trivial⟩ ?_
        exact .ret q
      · rw [if_neg c3] at h
        refine .condF q (bn c3)<|.seq<|.reg0 q (.o (eqI q q)<|.o (asV q)<|.nil0) ?_
        by_cases c4 : a0.Tag = 3
        · rw [if_pos c4] at h
          refine .condT q (bt c4) ?_
          obtain ⟨t12_6, g12_6, h⟩ := h
          refine .reg0 q (.o (faP fa25_1 q)<|.o (ldP q sz3 ag3 q)<|.o (faP fa33_2 q)<|.o (ldG q sz29 ag29 q)<|.o (faP fa33_2 q)<|.o (ldG q sz29 ag29 q)<|.c q go74 q q q (facts_Combine.D g12_6)<|.o (mvT q)<|.o (exT q q)<|.o (exT q q)<|.o (faP fa33_2 q)<|.o (stB (cs0 := GF_c2) (cs := (TFacts.lit t12_6.1)) (cs1 := [bo false, i6 0, u6 t12_6.1.Gen, .rows (t12_6.1.Rows.map (cInt .u64)), nul, nul]) q q sz29 q ⟨Nat.le_of_ble_eq_true q, q⟩ q)<|.nil0) ?_
          refine .inBlock<|.seq<|.reg0 q (.o (ldG q sz33 ag33 q)<|.o (stB (cs0 := GF_c2) (cs := [bo false, i6 0, u6 t12_6.1.Gen, .rows (t12_6.1.Rows.map (cInt .u64)), nul, nul]) (cs1 := [bo false, i6 0, u6 t12_6.1.Gen, .rows (t12_6.1.Rows.map (cInt .u64)), nul, nul]) q q sz33 q ⟨Nat.le_of_ble_eq_true q, q⟩ q)<|.nil0) ?_
          replace h := h.symm
          subst h
          refine .k [(6, .cptr [bo false, i6 0, u6 t12_6.1.Gen, .rows (t12_6.1.Rows.map (cInt .u64)), .rows (([] : List TCell).map TCell.cells), .rows (([] : List TWeight).map TWeight.cells)] 0)] ⟨cFixP q q (.cons (.free q q)<|.cons (.free q q)<|.cons (.free q q)<|.cons (.free q q)<|.cons (.nil)<|.cons (.nil)<|.nil), trivial⟩ ?_
          exact .ret q
        · rw [if_neg c4] at h
          refine .condF q (bn c4)<|.seq<|.reg0 q (.o (eqI q q)<|.o (asV q)<|.nil0) ?_
          by_cases c5 : a0.Tag = 4
          · rw [if_pos c5] at h
            refine .condT q (bt c5) ?_
            obtain ⟨t15_6, g15_6, h⟩ := h
            refine .reg0 q (.o (faP fa25_1 q)<|.o (ldP q sz3 ag3 q)<|.o (faP fa33_3 q)<|.o (ldP q sz30 ag30 q)<|.o (faP fa33_3 q)<|.o (ldP q sz30 ag30 q)<|.c q go75 q q q (cells_Both.D g15_6)<|.o (mvT q)<|.o (exT q q)<|.o (exT q q)<|.o (faP fa33_3 q)<|.o (stB (cs0 := GF_c2) (cs := [.rows (t15_6.1.map TCell.cells)]) (cs1 := [bo false, i6 0, u6 0, nul, .rows (t15_6.1.map TCell.cells), nul]) q q sz30 q ⟨Nat.le_of_ble_eq_true q, q⟩ q)<|.nil0) ?_
            refine .inBlock<|.seq<|.reg0 q (.o (ldG q sz33 ag33 q)<|.o (stB (cs0 := GF_c2) (cs := [bo false, i6 0, u6 0, nul, .rows (t15_6.1.map TCell.cells), nul]) (cs1 := [bo false, i6 0, u6 0, nul, .rows (t15_6.1.map TCell.cells), nul]) q q sz33 q ⟨Nat.le_of_ble_eq_true q, q⟩ q)<|.nil0) ?_
            replace h := h.symm
            subst h
            refine .k [(6, .cptr [bo false, i6 0, u6 0, .rows (([] : List Int).map (cInt .u64)), .rows (t15_6.1.map TCell.cells), .rows (([] : List TWeight).map TWeight.cells)] 0)] ⟨cFixP q q (.cons (.free q q)<|.cons (.free q q)<|.cons (.free q q)<|.cons (.nil)<|.cons (.free q q)<|.cons (.nil)<|.nil), trivial⟩ ?_
            exact .ret q
          · rw [if_neg c5] at h
            refine .condF q (bn c5)<|.seq<|.reg0 q (.o (eqI q q)<|.o (asV q)<|.nil0) ?_
            by_cases c6 : a0.Tag = 5
            · rw [if_pos c6] at h
              refine .condT q (bt c6) ?_
              obtain ⟨g18_2, h⟩ := h
              obtain ⟨g18_6, h⟩ := h
              obtain ⟨g18_10, h⟩ := h
              obtain ⟨t18_12, g18_12, h⟩ := h
              obtain ⟨g18_15, h⟩ := h
              obtain ⟨g18_19, h⟩ := h
              obtain ⟨g18_23, h⟩ := h
              obtain ⟨t18_25, g18_25, h⟩ := h
              refine .room 0 ?_
              refine .reg1 (e1 := listEnv [(6, .ptr 3 1 6 0 0), (7, .ptr 4 1 6 0 0)]) (H1 := [⟨3, [(TSpace.lit a0)], 0, none⟩, ⟨6, [(TWeight.lit a1)], 0, none⟩, ⟨6, [(TWeight.lit a2)], 0, none⟩, ⟨6, [GF_c2], 0, none⟩, ⟨6, [[bo false, i6 0, u6 0, nul, nul, .own 5 ([t18_12, t18_25].length)]], 0, none⟩, ⟨6, [t18_12, t18_25].map TWeight.cells, 0, none⟩]) q ?_ ?_
              · exact .drawM [(27, 85, .ptr 4 1 6 0 5), (26, 84, .own 5 ([t18_12, t18_25].length)), (25, 83, .agg (TWeight.lit t18_25)), (24, 82, .agg (TWeight.lit (rdl a2.Parts 1))), (23, 81, .cptr (TWeight.lit (rdl a2.Parts 1)) 0), (22, 80, .rows (a2.Parts.map TWeight.cells)), (21, 79, .ptr 2 1 6 0 5), (20, 78, .agg (TWeight.lit (rdl a1.Parts 1))), (19, 77, .cptr (TWeight.lit (rdl a1.Parts 1)) 0), (18, 76, .rows (a1.Parts.map TWeight.cells)), (17, 75, .ptr 1 1 6 0 5), (16, 74, .agg (TSpace.lit (rdl a0.Parts 1))), (15, 73, .cptr (TSpace.lit (rdl a0.Parts 1)) 0), (14, 72, .rows (a0.Parts.map TSpace.cells)), (13, 71, .ptr 0 1 3 0 2), (12, 70, .agg (TWeight.lit t18_12)), (11, 69, .agg (TWeight.lit (rdl a2.Parts 0))), (10, 68, .cptr (TWeight.lit (rdl a2.Parts 0)) 0), (9, 67, .rows (a2.Parts.map TWeight.cells)), (8, 66, .ptr 2 1 6 0 5), (7, 65, .agg (TWeight.lit (rdl a1.Parts 0))), (6, 64, .cptr (TWeight.lit (rdl a1.Parts 0)) 0), (5, 63, .rows (a1.Parts.map TWeight.cells)), (4, 62, .ptr 1 1 6 0 5), (3, 61, .agg (TSpace.lit (rdl a0.Parts 0))), (2, 60, .cptr (TSpace.lit (rdl a0.Parts 0)) 0), (1, 59, .rows (a0.Parts.map TSpace.cells)), (0, 58, .ptr 0 1 3 0 2)] [(28, 4, ⟨6, [[bo false, i6 0, u6 0, nul, nul, .own 5 ([t18_12, t18_25].length)]], 0, none⟩), (26, 5, ⟨6, [t18_12, t18_25].map TWeight.cells, 0, none⟩)] [[], [0], [1, 0], [2, 1, 0], [], [4], [5, 4], [6, 5, 4], [], [8], [9, 8], [10, 9, 8], [3, 2, 1, 0, 7, 6, 5, 4, 11, 10, 9, 8], [], [13], [14, 13], [15, 14, 13], [], [17], [18, 17], [19, 18, 17], [], [21], [22, 21], [23, 22, 21], [16, 15, 14, 13, 20, 19, 18, 17, 24, 23, 22, 21, 12, 3, 2, 1, 0, 7, 6, 5, 4, 11, 10, 9, 8], [12, 3, 2, 1, 0, 7, 6, 5, 4, 11, 10, 9, 8, 25, 16, 15, 14, 13, 20, 19, 18, 17, 24, 23, 22, 21], [0, 1, 2, 3, 4, 5, 6, 7, 8, 9, 10, 11, 12, 13, 14, 15, 16, 17, 18, 19, 20, 21, 22, 23, 24, 25, 26], [27, 0, 1, 2, 3, 4, 5, 6, 7, 8, 9, 10, 11, 12, 13, 14, 15, 16, 17, 18, 19, 20, 21, 22, 23, 24, 25, 26]] (by rfl) (by rfl) (by rfl) (by exact ⟨oP (fun _ => faP fa25_2 q) q, oP (fun _ => ldP q sz23 ag23 q) q, oP (fun _ => ixR (l := a0.Parts) (lit := TSpace.lit) sl23 q q TSpace.cells_lit g18_2.1 g18_2.2) q, oP (fun _ => ldCG q sz25 ag25 q) q, oP (fun _ => faP fa33_4 q) q, oP (fun _ => ldP q sz31 ag31 q) q, oP (fun _ => ixR (l := a1.Parts) (lit := TWeight.lit) sl31 q q TWeight.cells_lit g18_6.1 g18_6.2) q, oP (fun _ => ldCG q sz33 ag33 q) q, oP (fun _ => faP fa33_4 q) q, oP (fun _ => ldP q sz31 ag31 q) q, oP (fun _ => ixR (l := a2.Parts) (lit := TWeight.lit) sl31 q q TWeight.cells_lit g18_10.1 g18_10.2) q, oP (fun _ => ldCG q sz33 ag33 q) q, fun S hS hD hn => .oneI hS hD hn q q (callee_of q go44 q) (.pure q q (hs44 _ _ _ _ g18_12)) q q q, oP (fun _ => faP fa25_2 q) q, oP (fun _ => ldP q sz23 ag23 q) q, oP (fun _ => ixR (l := a0.Parts) (lit := TSpace.lit) sl23 q q TSpace.cells_lit g18_15.1 g18_15.2) q, oP (fun _ => ldCG q sz25 ag25 q) q, oP (fun _ => faP fa33_4 q) q, oP (fun _ => ldP q sz31 ag31 q) q, oP (fun _ => ixR (l := a1.Parts) (lit := TWeight.lit) sl31 q q TWeight.cells_lit g18_19.1 g18_19.2) q, oP (fun _ => ldCG q sz33 ag33 q) q, oP (fun _ => faP fa33_4 q) q, oP (fun _ => ldP q sz31 ag31 q) q, oP (fun _ => ixR (l := a2.Parts) (lit := TWeight.lit) sl31 q q TWeight.cells_lit g18_23.1 g18_23.2) q, oP (fun _ => ldCG q sz33 ag33 q) q, fun S hS hD hn => .oneI hS hD hn q q (callee_of q go44 q) (.pure q q (hs44 _ _ _ _ g18_25)) q q q, oW 5 (fun _ => bldT (s := 6) (cs := [bo t18_12.Zero, i6 t18_12.Cost, u6 t18_12.Facts.Gen, .rows (t18_12.Facts.Rows.map (cInt .u64)), .rows (t18_12.Cells.map TCell.cells), .rows (t18_12.Parts.map TWeight.cells), bo t18_25.Zero, i6 t18_25.Cost, u6 t18_25.Facts.Gen, .rows (t18_25.Facts.Rows.map (cInt .u64)), .rows (t18_25.Cells.map TCell.cells), .rows (t18_25.Parts.map TWeight.cells)]) (cf := TWeight.cells) [t18_12, t18_25] un31 sz33 ze33 ⟨by decide, q, by decide⟩ q q q (by simp only [List.map, TWeight.cells_lit]; rfl) q) q fun _ => q, oP (fun _ => faP fa33_4 q) q, fun S hS hD hn => .one0 0 q q (stB (cs0 := GF_c2) (cs := [.own 5 ([t18_12, t18_25].length)]) (cs1 := [bo false, i6 0, u6 0, nul, nul, .own 5 ([t18_12, t18_25].length)]) q q sz31 q ⟨Nat.le_of_ble_eq_true q, q⟩ q) (drawE_other _ _ _ _ q) q, trivial⟩) _ (by exact ⟨.ptr q, .ptr q, trivial⟩) (by rfl)
              refine .inBlock<|.seq<|.reg0 q (.o (ldG q sz33 ag33 q)<|.o (stB (cs0 := GF_c2) (cs := [bo false, i6 0, u6 0, nul, nul, .own 5 ([t18_12, t18_25].length)]) (cs1 := [bo false, i6 0, u6 0, nul, nul, .own 5 ([t18_12, t18_25].length)]) q q sz33 q ⟨Nat.le_of_ble_eq_true q, q⟩ q)<|.nil0) ?_
              replace h := h.symm
              subst h
              refine .k [(6, .cptr [bo false, i6 0, u6 0, .rows (([] : List Int).map (cInt .u64)), .rows (([] : List TCell).map TCell.cells), .rows ([t18_12, t18_25].map TWeight.cells)] 0)] ⟨cFixP q q (.cons (.free q q)<|.cons (.free q q)<|.cons (.free q q)<|.cons (.nil)<|.cons (.nil)<|.cons (cFixO (l := [t18_12, t18_25]) sl31 q q q q)<|.nil), trivial⟩ ?_
              exact .ret q
            · rw [if_neg c6] at h
              refine .condF q (bn c6)<|.skip<|.inBlock<|.seq<|.reg0 q (.o (ldG q sz33 ag33 q)<|.o (stB (cs0 := GF_c2) (cs := GF_c2) (cs1 := GF_c2) q q sz33 q ⟨Nat.le_of_ble_eq_true q, q⟩ q)<|.nil0) ?_
              replace h := h.symm
              subst h
              refine .k [(6, .cptr GF_c3 0)] ⟨cFixP q q (.cons (.free q q)<|.cons (.free q q)<|.cons (.free q q)<|.cons (.nil)<|.cons (.nil)<|.cons (.nil)<|.nil), trivial⟩ ?_
              exact .ret q
def weight_either.fN : Nat → TSpace → TWeight → TWeight → TWeight → Prop
  | 0 => fun _ _ _ _ => False
  | n + 1 => weight_either.step (weight_either.fN n)
theorem weight_either.ND : ∀ (n : Nat) {a0 : TSpace} {a1 : TWeight} {a2 : TWeight} {r : TWeight} (h : weight_either.fN n a0 a1 a2 r), D Tryz.prog X (.callH 44 [.agg (TSpace.lit a0), .agg (TWeight.lit a1), .agg (TWeight.lit a2)] [] (.agg (TWeight.lit r)) [])
  | 0, _, _, _, _, h => h.elim
  | n + 1, _, _, _, _, h => weight_either.stepD (fun _ _ _ _ h => weight_either.ND n h) h
def weight_either.f (a0 : TSpace) (a1 : TWeight) (a2 : TWeight) (r : TWeight) : Prop := ∃ n, weight_either.fN n a0 a1 a2 r
theorem weight_either.D {a0 a1 a2 r} (h : weight_either.f a0 a1 a2 r) : D Tryz.prog X (.callH 44 [.agg (TSpace.lit a0), .agg (TWeight.lit a1), .agg (TWeight.lit a2)] [] (.agg (TWeight.lit r)) []) := by obtain ⟨n, h⟩ := h; exact weight_either.ND n h
def slices_Clone_uint64.f (a0 : List Int) (r : (List Int)) : Prop :=
  if a0.length = 0 then (∀ (z_ : Option Addr) (k_ : Nat), if z_.isNone = true then (r = []) else (((Fits (0 + 0) 8)) ∧ r = [])) else (((Fits (0 + a0.length) 8)) ∧ r = a0)
theorem slices_Clone_uint64.D {a0 r} (h : slices_Clone_uint64.f a0 r) : D Tryz.prog X (.callH 76 [.rows (a0.map (cInt .u64))] [] (.rows (r.map (cInt .u64))) []) := by
  unfold slices_Clone_uint64.f at h
  by_cases c0_ : a0.length = 0
  · rw [if_pos c0_] at h
    have e0_ := List.eq_nil_of_length_eq_zero c0_
    subst e0_
    refine .nilQ [] [] fun z_ k_ => ?_
    replace h := h z_ k_
    refine .enter 8 0 fn76 q q q<|.seq<|.reg0 q (.o (asV q)<|.nil0)<|.seq<|.seq<|.reg0 q (.o (mvV q)<|.o (eqEN un27 q q)<|.nil0) ?_
    by_cases c1 : z_.isNone = true
    · rw [if_pos c1] at h
      refine .condT q c1<|.seq<|.reg0 q (.o (asV q)<|.nil0) ?_
      replace h := h.symm
      subst h
      refine .k [(2, .rows (([] : List Int).map (cInt .u64)))] ⟨.nil, trivial⟩ ?_
      exact .ret q
    · rw [if_neg c1] at h
      refine .condF q (nb c1)<|.skip<|.seq ?_
      obtain ⟨g4_2, h⟩ := h
      refine .room 0<|.room 0<|.reg0 q (.o (bldL (s := 1) (cs := []) un27 sz26 ze26 ⟨by decide, q, by decide⟩ q q q q)<|.o (mvV q)<|.o (apL (l := []) [] sl27 q q q (Nat.zero_le _) q g4_2)<|.o (asO q)<|.nil0) ?_
      replace h := h.symm
      subst h
      refine .k [(2, .rows ([].map (cInt .u64)))] ⟨cFixO (l := []) sl27 q q q q, trivial⟩ ?_
      exact .ret q
  · rw [if_neg c0_] at h
    refine .enter 8 0 fn76 q q q<|.seq<|.reg0 q (.o (asV q)<|.nil0)<|.seq<|.seq<|.reg0 q (.o (mvR q)<|.o (eqRN c0_ un27 q q)<|.nil0)<|.condF q q<|.skip<|.seq ?_
    obtain ⟨g7_2, h⟩ := h
    refine .room 0<|.room 0<|.reg0 q (.o (bldL (s := 1) (cs := []) un27 sz26 ze26 ⟨by decide, q, by decide⟩ q q q q)<|.o (mvR q)<|.o (apL (l := []) a0 sl27 q q q (Nat.zero_le _) q g7_2)<|.o (asO q)<|.nil0) ?_
    replace h := h.symm
    subst h
    refine .k [(2, .rows (a0.map (cInt .u64)))] ⟨cFixO (l := a0) sl27 q q q q, trivial⟩ ?_
    exact .ret q
def slices_Clone_Cell.f (a0 : List TCell) (r : (List TCell)) : Prop :=
  if a0.length = 0 then (∀ (z_ : Option Addr) (k_ : Nat), if z_.isNone = true then (r = []) else (((Fits (0 + 0) 24)) ∧ r = [])) else (((Fits (0 + a0.length) 24)) ∧ r = a0)
theorem slices_Clone_Cell.D {a0 r} (h : slices_Clone_Cell.f a0 r) : D Tryz.prog X (.callH 77 [.rows (a0.map TCell.cells)] [] (.rows (r.map TCell.cells)) []) := by
  unfold slices_Clone_Cell.f at h
  by_cases c0_ : a0.length = 0
  · rw [if_pos c0_] at h
    have e0_ := List.eq_nil_of_length_eq_zero c0_
    subst e0_
    refine .nilQ [] [] fun z_ k_ => ?_
    replace h := h z_ k_
    refine .enter 8 0 fn77 q q q<|.seq<|.reg0 q (.o (asV q)<|.nil0)<|.seq<|.seq<|.reg0 q (.o (mvV q)<|.o (eqEN un30 q q)<|.nil0) ?_
    by_cases c1 : z_.isNone = true
    · rw [if_pos c1] at h
      refine .condT q c1<|.seq<|.reg0 q (.o (asV q)<|.nil0) ?_
      replace h := h.symm
      subst h
      refine .k [(2, .rows (([] : List TCell).map TCell.cells))] ⟨.nil, trivial⟩ ?_
      exact .ret q
    · rw [if_neg c1] at h
      refine .condF q (nb c1)<|.skip<|.seq ?_
      obtain ⟨g4_2, h⟩ := h
      refine .room 0<|.room 0<|.reg0 q (.o (bldL (s := 3) (cs := []) un30 sz74 ze74 ⟨by decide, q, by decide⟩ q q q q)<|.o (mvV q)<|.o (apL (l := []) [] sl30 q q q (Nat.zero_le _) q g4_2)<|.o (asO q)<|.nil0) ?_
      replace h := h.symm
      subst h
      refine .k [(2, .rows ([].map TCell.cells))] ⟨cFixO (l := []) sl30 q q q q, trivial⟩ ?_
      exact .ret q
  · rw [if_neg c0_] at h
    refine .enter 8 0 fn77 q q q<|.seq<|.reg0 q (.o (asV q)<|.nil0)<|.seq<|.seq<|.reg0 q (.o (mvR q)<|.o (eqRN c0_ un30 q q)<|.nil0)<|.condF q q<|.skip<|.seq ?_
    obtain ⟨g7_2, h⟩ := h
    refine .room 0<|.room 0<|.reg0 q (.o (bldL (s := 3) (cs := []) un30 sz74 ze74 ⟨by decide, q, by decide⟩ q q q q)<|.o (mvR q)<|.o (apL (l := []) a0 sl30 q q q (Nat.zero_le _) q g7_2)<|.o (asO q)<|.nil0) ?_
    replace h := h.symm
    subst h
    refine .k [(2, .rows (a0.map TCell.cells))] ⟨cFixO (l := a0) sl30 q q q q, trivial⟩ ?_
    exact .ret q
def slices_Clone_Weight_o0.f (a0 : List TWeight) (r : (List TWeight)) : Prop :=
  if a0.length = 0 then (∀ (z_ : Option Addr) (k_ : Nat), if z_.isNone = true then (r = []) else (((Fits (0 + 0) 96)) ∧ r = [])) else (((Fits (0 + a0.length) 96)) ∧ r = a0)
theorem slices_Clone_Weight_o0.D {a0 r} (h : slices_Clone_Weight_o0.f a0 r) : D Tryz.prog X (.callH 78 [.rows (a0.map TWeight.cells)] [] (.own 0 r.length) [⟨6, r.map TWeight.cells, 0, none⟩]) := by
  unfold slices_Clone_Weight_o0.f at h
  by_cases c0_ : a0.length = 0
  · rw [if_pos c0_] at h
    have e0_ := List.eq_nil_of_length_eq_zero c0_
    subst e0_
    refine .nilQ [] [] fun z_ k_ => ?_
    replace h := h z_ k_
    refine .enter 8 0 fn78 q q q<|.seq<|.reg0 q (.o (asV q)<|.nil0)<|.seq<|.seq<|.reg0 q (.o (mvV q)<|.o (eqEN un31 q q)<|.nil0) ?_
    by_cases c1 : z_.isNone = true
    · rw [if_pos c1] at h
      refine .condT q c1<|.seq<|.reg0 q (.o (asV q)<|.nil0) ?_
      replace h := h.symm
      subst h
      refine .room 6<|.keepL [0] [(2, .own 0 0)] [⟨6, [].map TWeight.cells, 0, none⟩] (by decide) (by decide) ⟨.nilOwn, trivial⟩ ⟨⟨_, q, bcRow (l := []) sl31 (Nat.le_refl _) q⟩, trivial⟩ ?_
      exact .ret q
    · rw [if_neg c1] at h
      refine .condF q (nb c1)<|.skip<|.seq ?_
      obtain ⟨g4_2, h⟩ := h
      refine .room 0<|.room 0<|.reg0 q (.o (bldL (s := 6) (cs := []) un31 sz33 ze33 ⟨by decide, q, by decide⟩ q q q q)<|.o (mvV q)<|.o (apL (l := []) [] sl31 q q q (Nat.zero_le _) q g4_2)<|.o (asO q)<|.nil0) ?_
      replace h := h.symm
      subst h
      refine .keepL [0] [(2, .own 0 0)] [⟨6, [].map TWeight.cells, 0, none⟩] (by decide) (by decide) ⟨.own q, trivial⟩ ⟨⟨_, q, bcRow (l := []) sl31 (Nat.le_refl _) q⟩, trivial⟩ ?_
      exact .ret q
  · rw [if_neg c0_] at h
    refine .enter 8 0 fn78 q q q<|.seq<|.reg0 q (.o (asV q)<|.nil0)<|.seq<|.seq<|.reg0 q (.o (mvR q)<|.o (eqRN c0_ un31 q q)<|.nil0)<|.condF q q<|.skip<|.seq ?_
    obtain ⟨g7_2, h⟩ := h
    refine .room 0<|.room 0<|.reg0 q (.o (bldL (s := 6) (cs := []) un31 sz33 ze33 ⟨by decide, q, by decide⟩ q q q q)<|.o (mvR q)<|.o (apL (l := []) a0 sl31 q q q (Nat.zero_le _) q g7_2)<|.o (asO q)<|.nil0) ?_
    replace h := h.symm
    subst h
    refine .keepL [0] [(2, .own 0 a0.length)] [⟨6, a0.map TWeight.cells, 0, none⟩] (by decide) (by decide) ⟨.own q, trivial⟩ ⟨⟨_, q, bcRow (l := a0) sl31 (Nat.le_refl _) q⟩, trivial⟩ ?_
    exact .ret q
def weight_copied.b1 (self45 : TWeight → TWeight → Prop) (t4_2 : (List TWeight)) : ((List TWeight) × Int) → Rnd (((List TWeight) × Int)) ((List TWeight)) TWeight → Prop := fun (x1, x2) z1 => if x2 < (t4_2.length : Int) then (((InR x2 x1.length)) ∧ ∃ t16_8 : TWeight, (self45 (rdl x1 x2) t16_8) ∧ ((InR x2 x1.length)) ∧ z1 = .next ((setl x1 x2 t16_8), (IntKind.i64.wrap (x2 + 1)))) else (z1 = .exit x1)
def weight_copied.step (self45 : TWeight → TWeight → Prop) (a0 : TWeight) (r : TWeight) : Prop :=
  ∃ t2_3 : (List Int), (slices_Clone_uint64.f a0.Facts.Rows t2_3) ∧ ∃ t3_2 : (List TCell), (slices_Clone_Cell.f a0.Cells t3_2) ∧ ∃ t4_2 : (List TWeight), (slices_Clone_Weight_o0.f a0.Parts t4_2) ∧ ∃ o1 : Fin ((List TWeight)) TWeight, Loop (weight_copied.b1 self45 t4_2) (t4_2, 0) o1 ∧ o1.on (fun x3 => r = (TWeight.mk a0.Zero a0.Cost (TFacts.mk a0.Facts.Gen t2_3) t3_2 x3)) (fun r_ => r = r_)
theorem weight_copied.stepD {self45 : TWeight → TWeight → Prop} {a0 : TWeight} (hs45 : ∀ z0_ r_, self45 z0_ r_ → D Tryz.prog X (.callH 45 [.agg (TWeight.lit z0_)] [] (.agg (TWeight.lit r_)) [])) {r : TWeight} (h : weight_copied.step self45 a0 r) : D Tryz.prog X (.callH 45 [.agg (TWeight.lit a0)] [] (.agg (TWeight.lit r)) []) := by
  unfold weight_copied.step at h
  refine .enter 36 0 fn45 q q q<|.seq<|.room 0<|.room 0<|.reg0 q (.o (bxP (s := 6) (cs := (TWeight.lit a0)) q ⟨q, by decide, q⟩ q)<|.op 1 q (alP (s := 6) ze33 ⟨q, by decide, q⟩ q)<|.nil0)<|.seq ?_
  obtain ⟨t2_3, g2_3, h⟩ := h
  refine .reg0 q (.o (faP fa33_2 q)<|.o (faP fa29_1 q)<|.o (ldP q sz27 ag27 q)<|.c q go76 q q q (slices_Clone_uint64.D g2_3)<|.o (faP fa33_2 q)<|.o (faP fa29_1 q)<|.o (stB (cs0 := (TWeight.lit a0)) (cs := [.rows (t2_3.map (cInt .u64))]) (cs1 := [bo a0.Zero, i6 a0.Cost, u6 a0.Facts.Gen, .rows (t2_3.map (cInt .u64)), .rows (a0.Cells.map TCell.cells), .rows (a0.Parts.map TWeight.cells)]) q q sz27 q ⟨Nat.le_of_ble_eq_true q, q⟩ q)<|.nil0) ?_
  refine .seq ?_
  obtain ⟨t3_2, g3_2, h⟩ := h
  refine .reg0 q (.o (faP fa33_3 q)<|.o (ldP q sz30 ag30 q)<|.c q go77 q q q (slices_Clone_Cell.D g3_2)<|.o (faP fa33_3 q)<|.o (stB (cs0 := [bo a0.Zero, i6 a0.Cost, u6 a0.Facts.Gen, .rows (t2_3.map (cInt .u64)), .rows (a0.Cells.map TCell.cells), .rows (a0.Parts.map TWeight.cells)]) (cs := [.rows (t3_2.map TCell.cells)]) (cs1 := [bo a0.Zero, i6 a0.Cost, u6 a0.Facts.Gen, .rows (t2_3.map (cInt .u64)), .rows (t3_2.map TCell.cells), .rows (a0.Parts.map TWeight.cells)]) q q sz30 q ⟨Nat.le_of_ble_eq_true q, q⟩ q)<|.nil0) ?_
  refine .seq ?_
  obtain ⟨t4_2, g4_2, h⟩ := h
  refine .room 0<|.reg0 q (.o (faP fa33_4 q)<|.o (ldP q sz31 ag31 q)<|.callI q (callee_of q go78 q) (.focus (args' := [.rows (a0.Parts.map TWeight.cells)]) (H0 := []) (Hc := [⟨6, t4_2.map TWeight.cells, 0, none⟩]) (Hd := [⟨6, t4_2.map TWeight.cells, 0, none⟩]) [] [] [2] false (.cons (.free q q)<|.nil) (HConvL.heap trivial) (by decide) q q (slices_Clone_Weight_o0.D g4_2) (.own q) (.cons (bcRow (l := t4_2) sl31 (Nat.le_refl _) q)<|.nil) q (.inr (.inl q)) q)<|.o (faP fa33_4 q)<|.o (stB (cs0 := [bo a0.Zero, i6 a0.Cost, u6 a0.Facts.Gen, .rows (t2_3.map (cInt .u64)), .rows (t3_2.map TCell.cells), .rows (a0.Parts.map TWeight.cells)]) (cs := [.own 2 t4_2.length]) (cs1 := [bo a0.Zero, i6 a0.Cost, u6 a0.Facts.Gen, .rows (t2_3.map (cInt .u64)), .rows (t3_2.map TCell.cells), .own 2 t4_2.length]) q q sz31 q ⟨Nat.le_of_ble_eq_true q, q⟩ q)<|.nil0) ?_
  refine .seq<|.seq<|.reg0 q (.o (faP fa33_4 q)<|.o (ldP q sz31 ag31 q)<|.o (lnO (l := t4_2) sl31 q q q)<|.o (mvV q)<|.nil0)<|.block<|.keepL [0, 2, 1] [(1, .ptr 0 1 6 0 0), (2, .ptr 2 1 6 0 0), (20, i6 (t4_2.length : Int)), (21, i6 0)] [⟨6, [[bo a0.Zero, i6 a0.Cost, u6 a0.Facts.Gen, .rows (t2_3.map (cInt .u64)), .rows (t3_2.map TCell.cells), .own 1 t4_2.length]], 0, none⟩, ⟨6, t4_2.map TWeight.cells, 0, none⟩, ⟨6, [GF_c2], 0, none⟩] (by decide) (by decide) ⟨.ptr q, .ptr q, .free q q, .free q q, trivial⟩ ⟨⟨_, q, bcBox (.cons (.free q q)<|.cons (.free q q)<|.cons (.free q q)<|.cons (.free q q)<|.cons (.free q q)<|.cons (.own q)<|.nil)⟩, ⟨_, q, bcRow (l := t4_2) sl31 (Nat.le_refl _) q⟩, ⟨_, q, bcBox (all2_free q)⟩, trivial⟩ ?_
  obtain ⟨o1, hL1, h⟩ := h
  refine .loopB (weight_copied.b1 self45 t4_2) (fun (x1, x2) => listEnv [(1, .ptr 0 1 6 0 0), (2, .ptr 2 1 6 0 0), (20, i6 (t4_2.length : Int)), (21, i6 x2)]) (fun (x1, x2) => [⟨6, [[bo a0.Zero, i6 a0.Cost, u6 a0.Facts.Gen, .rows (t2_3.map (cInt .u64)), .rows (t3_2.map TCell.cells), .own 1 x1.length]], 0, none⟩, ⟨6, x1.map TWeight.cells, 0, none⟩, ⟨6, [GF_c2], 0, none⟩]) (fun x3 => listEnv [(1, .ptr 0 1 6 0 0), (2, .ptr 2 1 6 0 0)]) (fun x3 => [⟨6, [[bo a0.Zero, i6 a0.Cost, u6 a0.Facts.Gen, .rows (t2_3.map (cInt .u64)), .rows (t3_2.map TCell.cells), .own 1 x3.length]], 0, none⟩, ⟨6, x3.map TWeight.cells, 0, none⟩, ⟨6, [GF_c2], 0, none⟩]) hL1 (fun r_ => r = r_) ?_ ?_ ?_
  · rintro x3 rfl
    try dsimp only [Fin.on] at h
    refine .seq<|.reg0 q (.o (ldG q sz33 ag33 q)<|.o (stB (cs0 := GF_c2) (cs := [bo a0.Zero, i6 a0.Cost, u6 a0.Facts.Gen, .rows (t2_3.map (cInt .u64)), .rows (t3_2.map TCell.cells), .own 1 x3.length]) (cs1 := [bo a0.Zero, i6 a0.Cost, u6 a0.Facts.Gen, .rows (t2_3.map (cInt .u64)), .rows (t3_2.map TCell.cells), .own 1 x3.length]) q q sz33 q ⟨Nat.le_of_ble_eq_true q, q⟩ q)<|.nil0) ?_
    replace h := h.symm
    subst h
    refine .k [(2, .cptr [bo a0.Zero, i6 a0.Cost, u6 a0.Facts.Gen, .rows (t2_3.map (cInt .u64)), .rows (t3_2.map TCell.cells), .rows (x3.map TWeight.cells)] 0)] ⟨cFixP q q (.cons (.free q q)<|.cons (.free q q)<|.cons (.free q q)<|.cons (.free q q)<|.cons (.free q q)<|.cons (cFixO (l := x3) sl31 q q q q)<|.nil), trivial⟩ ?_
    exact .ret q
  · rintro r_ rfl
    exact h
  · rintro ⟨x1, x2⟩ z1 h hn1 hx1 hr1
    dsimp only [weight_copied.b1] at h
    refine .seq<|.reg0 q (.o (ltI q q)<|.nil0)<|.seq ?_
    by_cases c3 : x2 < (t4_2.length : Int)
    · rw [if_pos c3] at h
      refine .condT q (dt c3)<|.skip<|.seq<|.block<|.seq<|.reg0 q (.o (mvV q)<|.o (asV q)<|.nil0) ?_
      obtain ⟨g16_6, h⟩ := h
      obtain ⟨t16_8, g16_8, h⟩ := h
      obtain ⟨g16_9, h⟩ := h
      refine .reg1 (e1 := listEnv [(1, .ptr 0 1 6 0 0), (2, .ptr 2 1 6 0 0), (20, i6 (t4_2.length : Int)), (21, i6 x2)]) (H1 := [⟨6, [[bo a0.Zero, i6 a0.Cost, u6 a0.Facts.Gen, .rows (t2_3.map (cInt .u64)), .rows (t3_2.map TCell.cells), .own 1 x1.length]], 0, none⟩, ⟨6, (setl x1 x2 t16_8).map TWeight.cells, 0, none⟩, ⟨6, [GF_c2], 0, none⟩]) q ?_ ?_
      · exact .drawM [(9, 33, .ptr 1 x1.length 6 (Int.toNat x2) 0), (8, 32, .agg (TWeight.lit t16_8)), (7, 31, .agg (TWeight.lit (rdl x1 x2))), (6, 30, .ptr 1 x1.length 6 (Int.toNat x2) 0), (5, 29, i6 x2), (4, 28, .own 1 x1.length), (3, 27, .ptr 0 1 6 0 5), (2, 26, i6 x2), (1, 25, .own 1 x1.length), (0, 24, .ptr 0 1 6 0 5)] [(10, 1, ⟨6, (setl x1 x2 t16_8).map TWeight.cells, 0, none⟩)] [[], [0], [], [], [3], [], [4, 3, 5], [6, 4, 3, 5], [7, 6, 4, 3, 5], [1, 0, 2, 3, 4, 5, 6, 7, 8], [9, 1, 0, 2, 3, 4, 5, 6, 7, 8]] (by rfl) (by rfl) (by rfl) (by exact ⟨oP (fun _ => faP fa33_4 q) q, oP (fun _ => ldP q sz31 ag31 q) q, oP (fun _ => mvV q) q, oP (fun _ => faP fa33_4 q) q, oP (fun _ => ldP q sz31 ag31 q) q, oP (fun _ => mvV q) q, oP (fun _ => ixO (l := x1) sl31 q q q q g16_6.1 g16_6.2) q, oP (fun _ => ldOG (l := x1) (j := x2) sl31 q sz33 ag33 q q TWeight.cells_lit g16_6.1 g16_6.2 (by decide) q) q, fun S hS hD hn => .oneI hS hD hn q q (callee_of q go45 q) (.pure q q (hs45 _ _ g16_8)) q q q, oP (fun _ => ixO (l := x1) sl31 q q q q g16_9.1 g16_9.2) q, fun S hS hD hn => .one0 0 q q (stO (l := x1) (j := x2) (cs := (TWeight.lit t16_8)) t16_8 sl31 q q sz33 q q g16_9.1 g16_9.2 (Nat.zero_le _) ⟨Nat.le_of_ble_eq_true q, q⟩ (by simp only [TWeight.cells_lit]; rfl)) (drawE_other _ _ _ _ q) q, trivial⟩) _ (by exact ⟨.ptr q, .ptr q, .free q q, .free q q, trivial⟩) (by rfl)
      refine .inBlock<|.reg0 q (.o (addI q q)<|.o (mvV q)<|.nil0)<|.keepL [0, 1, 2] [(1, .ptr 0 1 6 0 0), (2, .ptr 2 1 6 0 0), (20, i6 (t4_2.length : Int)), (21, i6 (IntKind.i64.wrap (x2 + 1)))] [⟨6, [[bo a0.Zero, i6 a0.Cost, u6 a0.Facts.Gen, .rows (t2_3.map (cInt .u64)), .rows (t3_2.map TCell.cells), .own 1 ((setl x1 x2 t16_8).length)]], 0, none⟩, ⟨6, (setl x1 x2 t16_8).map TWeight.cells, 0, none⟩, ⟨6, [GF_c2], 0, none⟩] (by decide) (by decide) ⟨.ptr q, .ptr q, .free q q, .free q q, trivial⟩ ⟨⟨_, q, bcBox (.cons (.free q q)<|.cons (.free q q)<|.cons (.free q q)<|.cons (.free q q)<|.cons (.free q q)<|.cons (cOwnE q (by simp only [setl, List.length_set]))<|.nil)⟩, ⟨_, q, bcRow (l := (setl x1 x2 t16_8)) sl31 (Nat.le_refl _) q⟩, ⟨_, q, bcBox (all2_free q)⟩, trivial⟩ ?_
      exact hn1 _ h
    · rw [if_neg c3] at h
      refine .condF q (df c3)<|.exit q<|.keepL [0, 1, 2] [(1, .ptr 0 1 6 0 0), (2, .ptr 2 1 6 0 0)] [⟨6, [[bo a0.Zero, i6 a0.Cost, u6 a0.Facts.Gen, .rows (t2_3.map (cInt .u64)), .rows (t3_2.map TCell.cells), .own 1 x1.length]], 0, none⟩, ⟨6, x1.map TWeight.cells, 0, none⟩, ⟨6, [GF_c2], 0, none⟩] (by decide) (by decide) ⟨.ptr q, .ptr q, trivial⟩ ⟨⟨_, q, bcBox (.cons (.free q q)<|.cons (.free q q)<|.cons (.free q q)<|.cons (.free q q)<|.cons (.free q q)<|.cons (.own q)<|.nil)⟩, ⟨_, q, bcRow (l := x1) sl31 (Nat.le_refl _) q⟩, ⟨_, q, bcBox (all2_free q)⟩, trivial⟩ ?_
      exact hx1 _ h
def weight_copied.fN : Nat → TWeight → TWeight → Prop
  | 0 => fun _ _ => False
  | n + 1 => weight_copied.step (weight_copied.fN n)
theorem weight_copied.ND : ∀ (n : Nat) {a0 : TWeight} {r : TWeight} (h : weight_copied.fN n a0 r), D Tryz.prog X (.callH 45 [.agg (TWeight.lit a0)] [] (.agg (TWeight.lit r)) [])
  | 0, _, _, h => h.elim
  | n + 1, _, _, h => weight_copied.stepD (fun _ _ h => weight_copied.ND n h) h
def weight_copied.f (a0 : TWeight) (r : TWeight) : Prop := ∃ n, weight_copied.fN n a0 r
theorem weight_copied.D {a0 r} (h : weight_copied.f a0 r) : D Tryz.prog X (.callH 45 [.agg (TWeight.lit a0)] [] (.agg (TWeight.lit r)) []) := by obtain ⟨n, h⟩ := h; exact weight_copied.ND n h
def weight_Combine.b1 (a0 : TSpace) (a1 : List TWeight) : (Bool × Int × Int × (List Int) × (List TCell) × (List TWeight) × Int) → Rnd ((Bool × Int × Int × (List Int) × (List TCell) × (List TWeight) × Int)) ((Bool × Int × Int × (List Int) × (List TCell) × (List TWeight))) (TWeight × Int) → Prop := fun (x1, x2, x3, x4, x5, x6, x7) z1 => if x7 < (a1.length : Int) then (((InR x7 a1.length)) ∧ ∃ t16_3 : TWeight, (weight_either.f a0 (TWeight.mk x1 x2 (TFacts.mk x3 x4) x5 x6) (rdl a1 x7) t16_3) ∧ z1 = .next (t16_3.Zero, t16_3.Cost, t16_3.Facts.Gen, t16_3.Facts.Rows, t16_3.Cells, t16_3.Parts, (IntKind.i64.wrap (x7 + 1)))) else (z1 = .exit (x1, x2, x3, x4, x5, x6))
def weight_Combine.f (a0 : TSpace) (a1 : List TWeight) (r : TWeight × Int) : Prop :=
  ∃ t2_2 : Int, (weight_checked.f a0 a1 t2_2) ∧ if t2_2 = 0 then (∃ t4_1 : TWeight, (weight_zero.f a0 t4_1) ∧ ∃ o1 : Fin ((Bool × Int × Int × (List Int) × (List TCell) × (List TWeight))) (TWeight × Int), Loop (weight_Combine.b1 a0 a1) (t4_1.Zero, t4_1.Cost, t4_1.Facts.Gen, t4_1.Facts.Rows, t4_1.Cells, t4_1.Parts, 0) o1 ∧ o1.on (fun (x8, x9, x10, x11, x12, x13) => ∃ t18_1 : TWeight, (weight_copied.f (TWeight.mk x8 x9 (TFacts.mk x10 x11) x12 x13) t18_1) ∧ r = (t18_1, 0)) (fun r_ => r = r_)) else (r = ((TWeight.mk false 0 (TFacts.mk 0 []) [] []), t2_2))
theorem weight_Combine.D {a0 a1 r} (h : weight_Combine.f a0 a1 r) : D Tryz.prog X (.callH 19 [.agg (TSpace.lit a0), .rows (a1.map TWeight.cells)] [] (.tuple [.agg (TWeight.lit r.1), .val (.int .i64 r.2)]) []) := by
  unfold weight_Combine.f at h
  refine .enter 32 0 fn19 q q q<|.seq<|.room 0<|.room 0<|.reg0 q (.o (bxP (s := 3) (cs := (TSpace.lit a0)) q ⟨q, by decide, q⟩ q)<|.op 1 q (alP (s := 6) ze33 ⟨q, by decide, q⟩ q)<|.o (asV q)<|.nil0)<|.seq<|.seq ?_
  obtain ⟨t2_2, g2_2, h⟩ := h
  refine .reg0 q (.o (ldG q sz25 ag25 q)<|.o (mvR q)<|.c q go43 q q q (weight_checked.D g2_2)<|.a q<|.nil0)<|.seq<|.reg0 q (.o (mvV q)<|.o (neI q q)<|.nil0) ?_
  by_cases c1 : t2_2 = 0
  · rw [if_pos c1] at h
    refine .condF q (nf c1)<|.skip<|.seq ?_
    obtain ⟨t4_1, g4_1, h⟩ := h
    refine .room 0<|.reg0 q (.o (ldG q sz25 ag25 q)<|.callI q (callee_of q go41 q) (.pure q q (weight_zero.D g4_1))<|.op 2 q (alP (s := 6) ze33 ⟨q, by decide, q⟩ q)<|.o (stB (cs0 := GF_c2) (cs := (TWeight.lit t4_1)) (cs1 := (TWeight.lit t4_1)) q q sz33 q ⟨Nat.le_of_ble_eq_true q, q⟩ q)<|.nil0)<|.seq<|.seq<|.reg0 q (.o (mvR q)<|.o (lnR (l := a1) sl31 q)<|.o (mvV q)<|.nil0) ?_
    refine .block<|.keepL [0, 1, 2] [(2, .ptr 0 1 3 0 0), (4, .ptr 1 1 6 0 0), (7, .ptr 2 1 6 0 0), (19, .rows (a1.map TWeight.cells)), (20, i6 (a1.length : Int)), (21, i6 0)] [⟨3, [(TSpace.lit a0)], 0, none⟩, ⟨6, [GF_c2], 0, none⟩, ⟨6, [(TWeight.lit t4_1)], 0, none⟩] (by decide) (by decide) ⟨.ptr q, .ptr q, .ptr q, .free q q, .free q q, .free q q, trivial⟩ ⟨⟨_, q, bcBox (all2_free q)⟩, ⟨_, q, bcBox (all2_free q)⟩, ⟨_, q, bcBox (all2_free q)⟩, trivial⟩ ?_
    obtain ⟨o1, hL1, h⟩ := h
    refine .loopB (weight_Combine.b1 a0 a1) (fun (x1, x2, x3, x4, x5, x6, x7) => listEnv [(2, .ptr 0 1 3 0 0), (4, .ptr 1 1 6 0 0), (7, .ptr 2 1 6 0 0), (19, .rows (a1.map TWeight.cells)), (20, i6 (a1.length : Int)), (21, i6 x7)]) (fun (x1, x2, x3, x4, x5, x6, x7) => [⟨3, [(TSpace.lit a0)], 0, none⟩, ⟨6, [GF_c2], 0, none⟩, ⟨6, [[bo x1, i6 x2, u6 x3, .rows (x4.map (cInt .u64)), .rows (x5.map TCell.cells), .rows (x6.map TWeight.cells)]], 0, none⟩]) (fun (x8, x9, x10, x11, x12, x13) => listEnv [(4, .ptr 0 1 6 0 0), (7, .ptr 1 1 6 0 0)]) (fun (x8, x9, x10, x11, x12, x13) => [⟨6, [GF_c2], 0, none⟩, ⟨6, [[bo x8, i6 x9, u6 x10, .rows (x11.map (cInt .u64)), .rows (x12.map TCell.cells), .rows (x13.map TWeight.cells)]], 0, none⟩]) hL1 (fun r_ => r = r_) ?_ ?_ ?_
    · rintro ⟨x8, x9, x10, x11, x12, x13⟩ rfl
      try dsimp only [Fin.on] at h
      refine .seq ?_
      obtain ⟨t18_1, g18_1, h⟩ := h
      refine .reg0 q (.o (ldG q sz33 ag33 q)<|.c q go45 q q q (weight_copied.D g18_1)<|.o (stB (cs0 := GF_c2) (cs := (TWeight.lit t18_1)) (cs1 := (TWeight.lit t18_1)) q q sz33 q ⟨Nat.le_of_ble_eq_true q, q⟩ q)<|.a q<|.nil0) ?_
      replace h := h.symm
      subst h
      refine .k [(4, .cptr (TWeight.lit t18_1) 0), (5, i6 0)] ⟨cFixP q q (.cons (.free q q)<|.cons (.free q q)<|.cons (.free q q)<|.cons (.free q q)<|.cons (.free q q)<|.cons (.free q q)<|.nil), .free q q, trivial⟩ ?_
      exact .ret q
    · rintro r_ rfl
      exact h
    · rintro ⟨x1, x2, x3, x4, x5, x6, x7⟩ z1 h hn1 hx1 hr1
      dsimp only [weight_Combine.b1] at h
      refine .seq<|.reg0 q (.o (ltI q q)<|.nil0)<|.seq ?_
      by_cases c4 : x7 < (a1.length : Int)
      · rw [if_pos c4] at h
        refine .condT q (dt c4)<|.skip<|.seq<|.block<|.seq ?_
        obtain ⟨g15_0, h⟩ := h
        refine .room 0<|.reg0 q (.o (ixR (l := a1) (lit := TWeight.lit) sl31 q q TWeight.cells_lit g15_0.1 g15_0.2)<|.o (ldCG q sz33 ag33 q)<|.op 3 q (alP (s := 6) ze33 ⟨q, by decide, q⟩ q)<|.o (stB (cs0 := GF_c2) (cs := (TWeight.lit (rdl a1 x7))) (cs1 := (TWeight.lit (rdl a1 x7))) q q sz33 q ⟨Nat.le_of_ble_eq_true q, q⟩ q)<|.nil0) ?_
        obtain ⟨t16_3, g16_3, h⟩ := h
        refine .reg0 q (.o (ldG q sz25 ag25 q)<|.o (ldG q sz33 ag33 q)<|.o (ldG q sz33 ag33 q)<|.c q go44 q q q (weight_either.D g16_3)<|.o (stB (cs0 := [bo x1, i6 x2, u6 x3, .rows (x4.map (cInt .u64)), .rows (x5.map TCell.cells), .rows (x6.map TWeight.cells)]) (cs := (TWeight.lit t16_3)) (cs1 := (TWeight.lit t16_3)) q q sz33 q ⟨Nat.le_of_ble_eq_true q, q⟩ q)<|.nil0) ?_
        refine .inBlock<|.reg0 q (.o (addI q q)<|.o (mvV q)<|.nil0)<|.keepL [0, 1, 2] [(2, .ptr 0 1 3 0 0), (4, .ptr 1 1 6 0 0), (7, .ptr 2 1 6 0 0), (19, .rows (a1.map TWeight.cells)), (20, i6 (a1.length : Int)), (21, i6 (IntKind.i64.wrap (x7 + 1)))] [⟨3, [(TSpace.lit a0)], 0, none⟩, ⟨6, [GF_c2], 0, none⟩, ⟨6, [(TWeight.lit t16_3)], 0, none⟩] (by decide) (by decide) ⟨.ptr q, .ptr q, .ptr q, .free q q, .free q q, .free q q, trivial⟩ ⟨⟨_, q, bcBox (all2_free q)⟩, ⟨_, q, bcBox (all2_free q)⟩, ⟨_, q, bcBox (all2_free q)⟩, trivial⟩ ?_
        exact hn1 _ h
      · rw [if_neg c4] at h
        refine .condF q (df c4)<|.exit q<|.keepL [1, 2] [(4, .ptr 0 1 6 0 0), (7, .ptr 1 1 6 0 0)] [⟨6, [GF_c2], 0, none⟩, ⟨6, [[bo x1, i6 x2, u6 x3, .rows (x4.map (cInt .u64)), .rows (x5.map TCell.cells), .rows (x6.map TWeight.cells)]], 0, none⟩] (by decide) (by decide) ⟨.ptr q, .ptr q, trivial⟩ ⟨⟨_, q, bcBox (all2_free q)⟩, ⟨_, q, bcBox (all2_free q)⟩, trivial⟩ ?_
        exact hx1 _ h
  · rw [if_neg c1] at h
    refine .condT q (nt c1)<|.seq<|.reg0 q (.o (bldS (cs := GF_c2) ze33 pl33 q q)<|.o (mvV q)<|.o (stB (cs0 := GF_c2) (cs := GF_c2) (cs1 := GF_c2) q q sz33 q ⟨Nat.le_of_ble_eq_true q, q⟩ q)<|.o (asV q)<|.nil0) ?_
    replace h := h.symm
    subst h
    refine .k [(4, .cptr GF_c3 0), (5, i6 t2_2)] ⟨cFixP q q (.cons (.free q q)<|.cons (.free q q)<|.cons (.free q q)<|.cons (.nil)<|.cons (.nil)<|.cons (.nil)<|.nil), .free q q, trivial⟩ ?_
    exact .ret q
def l05_combine.f (a0 : TSpace) (a1 : List TWeight) (r : TWeight) : Prop :=
  ∃ t2_2 : TWeight × Int, (weight_Combine.f a0 a1 t2_2) ∧ r = t2_2.1
theorem l05_combine.D {a0 a1 r} (h : l05_combine.f a0 a1 r) : D Tryz.prog X (.callH 16 [.agg (TSpace.lit a0), .rows (a1.map TWeight.cells)] [] (.agg (TWeight.lit r)) []) := by
  unfold l05_combine.f at h
  refine .enter 14 0 fn16 q q q<|.seq<|.room 0<|.room 0<|.reg0 q (.o (bxP (s := 3) (cs := (TSpace.lit a0)) q ⟨q, by decide, q⟩ q)<|.op 1 q (alP (s := 6) ze33 ⟨q, by decide, q⟩ q)<|.nil0)<|.seq ?_
  obtain ⟨t2_2, g2_2, h⟩ := h
  refine .room 0<|.reg0 q (.o (ldG q sz25 ag25 q)<|.o (mvR q)<|.callI q (callee_of q go19 q) (.pure q q (weight_Combine.D g2_2))<|.o (mvT q)<|.o (exT q q)<|.o (exT q q)<|.op 2 q (alP (s := 6) ze33 ⟨q, by decide, q⟩ q)<|.o (stB (cs0 := GF_c2) (cs := (TWeight.lit t2_2.1)) (cs1 := (TWeight.lit t2_2.1)) q q sz33 q ⟨Nat.le_of_ble_eq_true q, q⟩ q)<|.o (asV q)<|.nil0) ?_
  refine .seq<|.reg0 q (.o (ldG q sz33 ag33 q)<|.o (stB (cs0 := GF_c2) (cs := (TWeight.lit t2_2.1)) (cs1 := (TWeight.lit t2_2.1)) q q sz33 q ⟨Nat.le_of_ble_eq_true q, q⟩ q)<|.nil0) ?_
  replace h := h.symm
  subst h
  refine .k [(4, .cptr (TWeight.lit t2_2.1) 0)] ⟨cFixP q q (.cons (.free q q)<|.cons (.free q q)<|.cons (.free q q)<|.cons (.free q q)<|.cons (.free q q)<|.cons (.free q q)<|.nil), trivial⟩ ?_
  exact .ret q
end Go.RM.Tryz
