/- GG, for the statement FramesStates: what it needs, no more. -/
import Derived.Test.YtcogffeinodfaaaGreatDoorZFramesStatesGF
set_option linter.unusedVariables false
set_option maxRecDepth 8000
set_option maxHeartbeats 4000000
namespace Go.RM.Tryz
open Go.RM Go.Proofs
variable {X : FuncId → List PV → Heap → PV → Heap → Prop}
def frames_Leaks.j1 (x5 : Int) : (List Int) → (Rnd (((List Int) × Int)) ((List Int)) ((List Int) × Int)) → Prop := fun x10 z1 => z1 = .next (x10, (IntKind.i64.wrap (x5 + 1)))
def frames_Leaks.b1 (a0 : TGraph) (a1 : TState) : ((List Int) × Int) → Rnd (((List Int) × Int)) ((List Int)) ((List Int) × Int) → Prop := fun (x4, x5) z1 => if x5 < (a0.Sinks.length : Int) then (((InR x5 a0.Sinks.length)) ∧ (((rdl a0.Sinks x5).Node = a1.Node) → ((0 : Int) ≤ (rdl a0.Sinks x5).X)) ∧ if (((rdl a0.Sinks x5).Node == a1.Node) && ((bitOp .and .u64 (shrI .u64 a1.Marks ((rdl a0.Sinks x5).X)) 1) == 1)) = true then (((Fits (x4.length + 1) 8)) ∧ frames_Leaks.j1 x5 (x4 ++ [x5]) z1) else (frames_Leaks.j1 x5 x4 z1)) else (z1 = .exit x4)
def frames_Leaks.f (a0 : TGraph) (a1 : TState) (r : (List Int) × Int) : Prop :=
  ∃ t2_2 : Int, (frames_Check.f a0 a1 t2_2) ∧ if t2_2 = 0 then (∃ o1 : Fin ((List Int)) ((List Int) × Int), Loop (frames_Leaks.b1 a0 a1) ([], 0) o1 ∧ o1.on (fun x8 => r = (x8, 0)) (fun r_ => r = r_)) else (r = ([], t2_2))
theorem frames_Leaks.D {a0 a1 r} (h : frames_Leaks.f a0 a1 r) : D Tryz.prog X (.callH 12 [.agg (TGraph.lit a0), .agg (TState.lit a1)] [] (.tuple [.rows (r.1.map (cInt .i64)), .val (.int .i64 r.2)]) []) := by
  unfold frames_Leaks.f at h
  refine .enter 44 0 fn12 rfl rfl rfl <| .seq <| .room 0 <| .room 0 <| .reg0 rfl (.op 0 rfl (bxP (s := 10) (cs := (TGraph.lit a0)) rfl ⟨rfl, by decide, rfl⟩ rfl) <| .op 1 rfl (bxP (s := 4) (cs := (TState.lit a1)) rfl ⟨rfl, by decide, rfl⟩ rfl) <| .op 0 rfl (asV rfl) <| .op 0 rfl (asV rfl) <| .nil0) <| .seq <| .seq ?_
  obtain ⟨t2_2, g2_2, h⟩ := h
  refine .reg0 rfl (.o (ldG rfl sz29 ag29 rfl) <| .o (ldG rfl sz33 ag33 rfl) <| .c rfl go16 rfl rfl rfl (frames_Check.D g2_2) <| .a rfl <| .nil0) <| .seq <| .reg0 rfl (.op 0 rfl (mvV rfl) <| .op 0 rfl (neI rfl rfl) <| .nil0) ?_
  by_cases c1 : t2_2 = 0
  · rw [if_pos c1] at h
    refine .condF rfl (nf c1) <| .skip <| .seq <| .reg0 rfl (.op 0 rfl (asV rfl) <| .nil0) <| .seq <| .seq <| .reg0 rfl (.op 0 rfl (faP fa29_9 rfl) <| .op 0 rfl (ldP rfl sz27 ag27 rfl) <| .op 0 rfl (lnR (l := a0.Sinks) sl27 rfl) <| .op 0 rfl (mvV rfl) <| .nil0) <| .block <| .room 1 <| .keepL [1, 2] [(3, .ptr 0 1 4 0 0), (7, .own 1 0), (17, .rows (a0.Sinks.map TSink.cells)), (18, i6 (a0.Sinks.length : Int)), (19, i6 0)] [⟨4, [(TState.lit a1)], 0, none⟩, ⟨1, [].map (cInt .i64), 0, none⟩] (by decide) (by decide) ⟨.ptr rfl, .nilOwn, .free rfl rfl, .free rfl rfl, .free rfl rfl, trivial⟩ ⟨⟨_, rfl, bcBox (all2_free rfl)⟩, ⟨_, rfl, (bcRow (l := []) sl23 (Nat.le_refl _) rfl)⟩, trivial⟩ ?_
    obtain ⟨o1, hL1, h⟩ := h
    refine .loopB (frames_Leaks.b1 a0 a1) (fun (x4, x5) => listEnv [(3, .ptr 0 1 4 0 0), (7, .own 1 x4.length), (17, .rows (a0.Sinks.map TSink.cells)), (18, i6 (a0.Sinks.length : Int)), (19, i6 x5)]) (fun (x4, x5) => [⟨4, [(TState.lit a1)], 0, none⟩, ⟨1, x4.map (cInt .i64), 0, none⟩]) (fun x8 => listEnv [(7, .own 0 x8.length)]) (fun x8 => [⟨1, x8.map (cInt .i64), 0, none⟩]) hL1 (fun r_ => r = r_) ?_ ?_ ?_
    · rintro x8 rfl
      try dsimp only [Fin.on] at h
      refine .seq <| .reg0 rfl (.op 0 rfl (mvO rfl) <| .op 0 rfl (asO rfl) <| .op 0 rfl (asV rfl) <| .nil0) ?_
      replace h := h.symm
      subst h
      refine .k [(4, .rows (x8.map (cInt .i64))), (5, i6 0)] ⟨cFixO (l := x8) sl23 rfl rfl rfl rfl, .free rfl rfl, trivial⟩ ?_
      exact .ret rfl
    · rintro r_ rfl
      exact h
    · rintro ⟨x4, x5⟩ z1 h hn1 hx1 hr1
      dsimp only [frames_Leaks.b1] at h
      refine .seq <| .reg0 rfl (.op 0 rfl (ltI rfl rfl) <| .nil0) <| .seq ?_
      by_cases c16 : x5 < (a0.Sinks.length : Int)
      · rw [if_pos c16] at h
        refine .condT rfl (dt c16) <| .skip <| .seq <| .block <| .seq ?_
        obtain ⟨g31_1, h⟩ := h
        refine .room 0 <| .reg0 rfl (.op 0 rfl (mvV rfl) <| .op 0 rfl (ixR (l := a0.Sinks) (lit := TSink.lit) sl27 rfl rfl (fun _ => rfl) g31_1.1 g31_1.2) <| .op 0 rfl (ldCG rfl sz67 ag67 rfl) <| .op 2 rfl (alP (s := 2) ze67 ⟨rfl, by decide, rfl⟩ rfl) <| .op 0 rfl (asV rfl) <| .op 0 rfl (stB (cs0 := [i6 0, i6 0]) (cs := (TSink.lit (rdl a0.Sinks x5))) (cs1 := (TSink.lit (rdl a0.Sinks x5))) rfl rfl sz67 rfl ⟨Nat.le_of_ble_eq_true rfl, rfl⟩ rfl) <| .nil0) ?_
        refine .seq ?_
        obtain ⟨g32_10, h⟩ := h
        refine .reg0 (e1 := listEnv [(3, .ptr 0 1 4 0 0), (7, .own 1 x4.length), (8, i6 x5), (17, .rows (a0.Sinks.map TSink.cells)), (18, i6 (a0.Sinks.length : Int)), (19, i6 x5), (37, bo (((rdl a0.Sinks x5).Node == a1.Node) && ((bitOp .and .u64 (shrI .u64 a1.Marks ((rdl a0.Sinks x5).X)) 1) == 1)))]) (H1 := [⟨4, [(TState.lit a1)], 0, none⟩, ⟨1, x4.map (cInt .i64), 0, none⟩, ⟨2, [(TSink.lit (rdl a0.Sinks x5))], 0, none⟩]) rfl ?_ ?_
        · refine .o (faP fa67_1 rfl) <| .o (ldP rfl sz3 ag3 rfl) <| .o (faP fa33_0 rfl) <| .o (ldP rfl sz3 ag3 rfl) <| .o (eqI rfl rfl) <| .m rfl <| ?_
          by_cases c20 : (rdl a0.Sinks x5).Node = a1.Node
          · exact (.g rfl (bt c20) (faP fa33_2 rfl) <| .g rfl (bt c20) (ldP rfl sz31 ag31 rfl) <| .g rfl (bt c20) (faP fa67_0 rfl) <| .g rfl (bt c20) (ldP rfl sz3 ag3 rfl) <| .g rfl (bt c20) (shr_ rfl rfl (g32_10 c20)) <| .g rfl (bt c20) (andI rfl rfl) <| .g rfl (bt c20) (eqI rfl rfl) <| .o (pkTV rfl (bt c20) rfl) <| .nilL _ ⟨.ptr rfl, .own rfl, .free rfl rfl, .free rfl rfl, .free rfl rfl, .free rfl rfl, cB rfl (mAndT (bt c20) rfl), trivial⟩)
          · exact (.n rfl (bn c20) <| .n rfl (bn c20) <| .n rfl (bn c20) <| .n rfl (bn c20) <| .n rfl (bn c20) <| .n rfl (bn c20) <| .n rfl (bn c20) <| .o (pkFV rfl (bn c20) rfl) <| .nilL _ ⟨.ptr rfl, .own rfl, .free rfl rfl, .free rfl rfl, .free rfl rfl, .free rfl rfl, cB rfl (mAndF (bn c20)), trivial⟩)
        refine .consJ (fun s_ => frames_Leaks.j1 x5 s_ z1) (fun x10 => listEnv [(3, .ptr 0 1 4 0 0), (7, .own 1 x10.length), (17, .rows (a0.Sinks.map TSink.cells)), (18, i6 (a0.Sinks.length : Int)), (19, i6 x5)]) (fun x10 => [⟨4, [(TState.lit a1)], 0, none⟩, ⟨1, x10.map (cInt .i64), 0, none⟩]) ?_ fun hJ1 => ?_
        · rintro x10 h
          unfold frames_Leaks.j1 at h
          try dsimp only at h
          refine .inBlock <| .reg0 rfl (.op 0 rfl (addI rfl rfl) <| .op 0 rfl (mvV rfl) <| .nil0) <| .keepL [0, 1] [(3, .ptr 0 1 4 0 0), (7, .own 1 x10.length), (17, .rows (a0.Sinks.map TSink.cells)), (18, i6 (a0.Sinks.length : Int)), (19, i6 (IntKind.i64.wrap (x5 + 1)))] [⟨4, [(TState.lit a1)], 0, none⟩, ⟨1, x10.map (cInt .i64), 0, none⟩] (by decide) (by decide) ⟨.ptr rfl, .own rfl, .free rfl rfl, .free rfl rfl, .free rfl rfl, trivial⟩ ⟨⟨_, rfl, bcBox (all2_free rfl)⟩, ⟨_, rfl, bcRow (l := x10) sl23 (Nat.le_refl _) rfl⟩, trivial⟩ ?_
          exact hn1 _ h
        · by_cases c22 : (((rdl a0.Sinks x5).Node == a1.Node) && ((bitOp .and .u64 (shrI .u64 a1.Marks ((rdl a0.Sinks x5).X)) 1) == 1)) = true
          · rw [if_pos c22] at h
            refine .condT rfl c22 ?_
            obtain ⟨g35_3, h⟩ := h
            refine .room 0 <| .room 0 <| .reg0 rfl (.op 0 rfl (mvO rfl) <| .op 0 rfl (mvV rfl) <| .op 3 rfl (bldL (s := 1) (cs := [i6 x5]) un23 sz3 ze3 ⟨by decide, rfl, by decide⟩ rfl rfl rfl rfl) <| .op 0 rfl (ap1 (l := x4) x5 sl23 rfl rfl rfl (Nat.zero_le _) (elems_own (l := [x5]) rfl rfl) g35_3) <| .op 0 rfl (asO rfl) <| .nil0) <| .keepL [0, 1] [(3, .ptr 0 1 4 0 0), (7, .own 1 ((x4 ++ [x5]).length)), (17, .rows (a0.Sinks.map TSink.cells)), (18, i6 (a0.Sinks.length : Int)), (19, i6 x5)] [⟨4, [(TState.lit a1)], 0, none⟩, ⟨1, (x4 ++ [x5]).map (cInt .i64), 0, none⟩] (by decide) (by decide) ⟨.ptr rfl, .own rfl, .free rfl rfl, .free rfl rfl, .free rfl rfl, trivial⟩ ⟨⟨_, rfl, bcBox (all2_free rfl)⟩, ⟨_, rfl, bcRow (l := (x4 ++ [x5])) sl23 (Nat.le_refl _) rfl⟩, trivial⟩ ?_
            exact hJ1 _ h
          · rw [if_neg c22] at h
            refine .condF rfl (nb c22) <| .skip <| .keepL [0, 1] [(3, .ptr 0 1 4 0 0), (7, .own 1 x4.length), (17, .rows (a0.Sinks.map TSink.cells)), (18, i6 (a0.Sinks.length : Int)), (19, i6 x5)] [⟨4, [(TState.lit a1)], 0, none⟩, ⟨1, x4.map (cInt .i64), 0, none⟩] (by decide) (by decide) ⟨.ptr rfl, .own rfl, .free rfl rfl, .free rfl rfl, .free rfl rfl, trivial⟩ ⟨⟨_, rfl, bcBox (all2_free rfl)⟩, ⟨_, rfl, bcRow (l := x4) sl23 (Nat.le_refl _) rfl⟩, trivial⟩ ?_
            exact hJ1 _ h
      · rw [if_neg c16] at h
        refine .condF rfl (df c16) <| .exit rfl <| .keepL [1] [(7, .own 0 x4.length)] [⟨1, x4.map (cInt .i64), 0, none⟩] (by decide) (by decide) ⟨.own rfl, trivial⟩ ⟨⟨_, rfl, bcRow (l := x4) sl23 (Nat.le_refl _) rfl⟩, trivial⟩ ?_
        exact hx1 _ h
  · rw [if_neg c1] at h
    refine .condT rfl (nt c1) <| .seq <| .reg0 rfl (.op 0 rfl (mvV rfl) <| .op 0 rfl (asV rfl) <| .op 0 rfl (asV rfl) <| .nil0) ?_
    replace h := h.symm
    subst h
    refine .k [(4, .rows (([] : List Int).map (cInt .i64))), (5, i6 t2_2)] ⟨.nil, .free rfl rfl, trivial⟩ ?_
    exact .ret rfl
def r22_Leaks.j1 (x5 : Int) : (List Int) → (Rnd (((List Int) × Int)) ((List Int)) ((List Int) × Int)) → Prop := fun x10 z1 => z1 = .next (x10, (IntKind.i64.wrap (x5 + 1)))
def r22_Leaks.b1 (a0 : TGraph) (a1 : TState) : ((List Int) × Int) → Rnd (((List Int) × Int)) ((List Int)) ((List Int) × Int) → Prop := fun (x4, x5) z1 => if x5 < (a0.Sinks.length : Int) then (((InR x5 a0.Sinks.length)) ∧ (((rdl a0.Sinks x5).Node = a1.Node) → (InR x5 a0.Sinks.length)) ∧ (((rdl a0.Sinks x5).Node = a1.Node) → ((0 : Int) ≤ (IntKind.u64.wrap ((rdl a0.Sinks x5).X)))) ∧ if (((rdl a0.Sinks x5).Node == a1.Node) && ((bitOp .and .u64 (shrI .u64 a1.Marks (IntKind.u64.wrap ((rdl a0.Sinks x5).X))) 1) == 1)) = true then (((Fits (x4.length + 1) 8)) ∧ r22_Leaks.j1 x5 (x4 ++ [x5]) z1) else (r22_Leaks.j1 x5 x4 z1)) else (z1 = .exit x4)
def r22_Leaks.f (a0 : TGraph) (a1 : TState) (r : (List Int) × Int) : Prop :=
  ∃ t2_2 : Int, (r22_Check.f a0 a1 t2_2) ∧ if t2_2 = 0 then (∃ o1 : Fin ((List Int)) ((List Int) × Int), Loop (r22_Leaks.b1 a0 a1) ([], 0) o1 ∧ o1.on (fun x8 => r = (x8, 0)) (fun r_ => r = r_)) else (r = ([], t2_2))
abbrev GG_A0 : List (List Nat) := [[], [0], [], [1, 0, 2], [3, 1, 0, 2], [4, 3, 1, 0, 2], [], [6], [5, 4, 3, 1, 0, 2, 7, 6], [8, 5, 4, 3, 1, 0, 2, 7, 6], [9, 8, 5, 4, 3, 1, 0, 2, 7, 6], [10, 9, 8, 5, 4, 3, 1, 0, 2, 7, 6], [9, 8, 5, 4, 3, 1, 0, 2, 7, 6], [12, 9, 8, 5, 4, 3, 1, 0, 2, 7, 6], [9, 8, 5, 4, 3, 1, 0, 2, 7, 6], [13, 12, 9, 8, 5, 4, 3, 1, 0, 2, 7, 6, 14], [15, 13, 12, 9, 8, 5, 4, 3, 1, 0, 2, 7, 6, 14], [16, 15, 13, 12, 9, 8, 5, 4, 3, 1, 0, 2, 7, 6, 14], [17, 16, 15, 13, 12, 9, 8, 5, 4, 3, 1, 0, 2, 7, 6, 14], [11, 10, 9, 8, 5, 4, 3, 1, 0, 2, 7, 6, 18, 17, 16, 15, 13, 12, 14], [19, 11, 10, 9, 8, 5, 4, 3, 1, 0, 2, 7, 6, 18, 17, 16, 15, 13, 12, 14], [20, 19, 11, 10, 9, 8, 5, 4, 3, 1, 0, 2, 7, 6, 18, 17, 16, 15, 13, 12, 14], [9, 8, 5, 4, 3, 1, 0, 2, 7, 6, 21, 20, 19, 11, 10, 18, 17, 16, 15, 13, 12, 14]]
theorem r22_Leaks.D {a0 a1 r} (h : r22_Leaks.f a0 a1 r) : D Tryz.prog X (.callH 13 [.agg (TGraph.lit a0), .agg (TState.lit a1)] [] (.tuple [.rows (r.1.map (cInt .i64)), .val (.int .i64 r.2)]) []) := by
  unfold r22_Leaks.f at h
  refine .enter 50 0 fn13 rfl rfl rfl <| .seq <| .room 0 <| .room 0 <| .reg0 rfl (.op 0 rfl (bxP (s := 10) (cs := (TGraph.lit a0)) rfl ⟨rfl, by decide, rfl⟩ rfl) <| .op 1 rfl (bxP (s := 4) (cs := (TState.lit a1)) rfl ⟨rfl, by decide, rfl⟩ rfl) <| .op 0 rfl (asV rfl) <| .op 0 rfl (asV rfl) <| .nil0) <| .seq ?_
  obtain ⟨t2_2, g2_2, h⟩ := h
  refine .reg0 rfl (.o (ldG rfl sz29 ag29 rfl) <| .o (ldG rfl sz33 ag33 rfl) <| .c rfl go17 rfl rfl rfl (r22_Check.D g2_2) <| .a rfl <| .nil0) <| .seq <| .seq <| .reg0 rfl (.op 0 rfl (mvV rfl) <| .op 0 rfl (neI rfl rfl) <| .nil0) ?_
  by_cases c1 : t2_2 = 0
  · rw [if_pos c1] at h
    refine .condF rfl (nf c1) <| .skip <| .seq <| .reg0 rfl (.op 0 rfl (asV rfl) <| .nil0) <| .seq <| .seq <| .reg0 rfl (.op 0 rfl (asV rfl) <| .nil0) <| .block <| .room 1 <| .keepL [0, 1, 2] [(2, .ptr 0 1 10 0 0), (3, .ptr 1 1 4 0 0), (7, .own 2 0), (8, i6 0)] [⟨10, [(TGraph.lit a0)], 0, none⟩, ⟨4, [(TState.lit a1)], 0, none⟩, ⟨1, [].map (cInt .i64), 0, none⟩] (by decide) (by decide) ⟨.ptr rfl, .ptr rfl, .nilOwn, .free rfl rfl, trivial⟩ ⟨⟨_, rfl, bcBox (all2_free rfl)⟩, ⟨_, rfl, bcBox (all2_free rfl)⟩, ⟨_, rfl, (bcRow (l := []) sl23 (Nat.le_refl _) rfl)⟩, trivial⟩ ?_
    obtain ⟨o1, hL1, h⟩ := h
    refine .loopB (r22_Leaks.b1 a0 a1) (fun (x4, x5) => listEnv [(2, .ptr 0 1 10 0 0), (3, .ptr 1 1 4 0 0), (7, .own 2 x4.length), (8, i6 x5)]) (fun (x4, x5) => [⟨10, [(TGraph.lit a0)], 0, none⟩, ⟨4, [(TState.lit a1)], 0, none⟩, ⟨1, x4.map (cInt .i64), 0, none⟩]) (fun x8 => listEnv [(7, .own 0 x8.length)]) (fun x8 => [⟨1, x8.map (cInt .i64), 0, none⟩]) hL1 (fun r_ => r = r_) ?_ ?_ ?_
    · rintro x8 rfl
      try dsimp only [Fin.on] at h
      refine .seq <| .reg0 rfl (.op 0 rfl (mvO rfl) <| .op 0 rfl (asO rfl) <| .op 0 rfl (asV rfl) <| .nil0) ?_
      replace h := h.symm
      subst h
      refine .k [(4, .rows (x8.map (cInt .i64))), (5, i6 0)] ⟨cFixO (l := x8) sl23 rfl rfl rfl rfl, .free rfl rfl, trivial⟩ ?_
      exact .ret rfl
    · rintro r_ rfl
      exact h
    · rintro ⟨x4, x5⟩ z1 h hn1 hx1 hr1
      dsimp only [r22_Leaks.b1] at h
      refine .seq <| .seq <| .reg0 rfl (.op 0 rfl (mvV rfl) <| .op 0 rfl (faP fa29_9 rfl) <| .op 0 rfl (ldP rfl sz27 ag27 rfl) <| .op 0 rfl (lnR (l := a0.Sinks) sl27 rfl) <| .op 0 rfl (ltI rfl rfl) <| .nil0) ?_
      by_cases c16 : x5 < (a0.Sinks.length : Int)
      · rw [if_pos c16] at h
        refine .condT rfl (dt c16) <| .skip <| .seq <| .block <| .seq ?_
        obtain ⟨g26_3, h⟩ := h
        obtain ⟨g26_15, h⟩ := h
        obtain ⟨g26_19, h⟩ := h
        refine .reg1 (e1 := listEnv [(2, .ptr 0 1 10 0 0), (3, .ptr 1 1 4 0 0), (7, .own 2 x4.length), (8, i6 x5), (44, bo (((rdl a0.Sinks x5).Node == a1.Node) && ((bitOp .and .u64 (shrI .u64 a1.Marks (IntKind.u64.wrap ((rdl a0.Sinks x5).X))) 1) == 1)))]) (H1 := [⟨10, [(TGraph.lit a0)], 0, none⟩, ⟨4, [(TState.lit a1)], 0, none⟩, ⟨1, x4.map (cInt .i64), 0, none⟩]) rfl ?_ ?_
        · by_cases c20 : (rdl a0.Sinks x5).Node = a1.Node
          · exact .drawM [(22, 44, bo ((bitOp .and .u64 (shrI .u64 a1.Marks (IntKind.u64.wrap ((rdl a0.Sinks x5).X))) 1) == 1)), (21, 43, bo ((bitOp .and .u64 (shrI .u64 a1.Marks (IntKind.u64.wrap ((rdl a0.Sinks x5).X))) 1) == 1)), (20, 42, u6 (bitOp .and .u64 (shrI .u64 a1.Marks (IntKind.u64.wrap ((rdl a0.Sinks x5).X))) 1)), (19, 41, u6 (shrI .u64 a1.Marks (IntKind.u64.wrap ((rdl a0.Sinks x5).X)))), (18, 40, u6 (IntKind.u64.wrap ((rdl a0.Sinks x5).X))), (17, 39, i6 ((rdl a0.Sinks x5).X)), (16, 38, .cptr (TSink.lit (rdl a0.Sinks x5)) 0), (15, 37, .cptr (TSink.lit (rdl a0.Sinks x5)) 0), (14, 36, i6 x5), (13, 35, .rows (a0.Sinks.map TSink.cells)), (12, 34, .ptr 0 1 10 0 9), (11, 33, u6 a1.Marks), (10, 32, .ptr 1 1 4 0 2), (9, 31, bo ((rdl a0.Sinks x5).Node == a1.Node)), (8, 30, bo ((rdl a0.Sinks x5).Node == a1.Node)), (7, 29, i6 a1.Node), (6, 28, .ptr 1 1 4 0 0), (5, 27, i6 ((rdl a0.Sinks x5).Node)), (4, 26, .cptr (TSink.lit (rdl a0.Sinks x5)) 1), (3, 25, .cptr (TSink.lit (rdl a0.Sinks x5)) 0), (2, 24, i6 x5), (1, 23, .rows (a0.Sinks.map TSink.cells)), (0, 22, .ptr 0 1 10 0 9)] [] GG_A0 (by rfl) (by rfl) (by rfl) (by exact ⟨oP (fun _ => faP fa29_9 rfl) rfl, oP (fun _ => ldP rfl sz27 ag27 rfl) rfl, oP (fun _ => mvV rfl) rfl, oP (fun _ => ixR (l := a0.Sinks) (lit := TSink.lit) sl27 rfl rfl (fun _ => rfl) g26_3.1 g26_3.2) rfl, oP (fun _ => faC fa67_1 rfl) rfl, oP (fun _ => ldC rfl sz3 ag3 rfl) rfl, oP (fun _ => faP fa33_0 rfl) rfl, oP (fun _ => ldP rfl sz3 ag3 rfl) rfl, oP (fun _ => eqI rfl rfl) rfl, oP (fun _ => mvV rfl) rfl, oG rfl (fun _ => rfl) (bt c20) (fun _ => faP fa33_2 rfl) rfl, oG rfl (fun _ => rfl) (bt c20) (fun _ => ldP rfl sz31 ag31 rfl) rfl, oG rfl (fun _ => rfl) (bt c20) (fun _ => faP fa29_9 rfl) rfl, oG rfl (fun _ => rfl) (bt c20) (fun _ => ldP rfl sz27 ag27 rfl) rfl, oG rfl (fun _ => rfl) (bt c20) (fun _ => mvV rfl) rfl, oG rfl (fun _ => rfl) (bt c20) (fun _ => ixR (l := a0.Sinks) (lit := TSink.lit) sl27 rfl rfl (fun _ => rfl) (g26_15 c20).1 (g26_15 c20).2) rfl, oG rfl (fun _ => rfl) (bt c20) (fun _ => faC fa67_0 rfl) rfl, oG rfl (fun _ => rfl) (bt c20) (fun _ => ldC rfl sz3 ag3 rfl) rfl, oG rfl (fun _ => rfl) (bt c20) (fun _ => convI un3 un68 rfl) rfl, oG rfl (fun _ => rfl) (bt c20) (fun _ => shr_ rfl rfl (g26_19 c20)) rfl, oG rfl (fun _ => rfl) (bt c20) (fun _ => andI rfl rfl) rfl, oG rfl (fun _ => rfl) (bt c20) (fun _ => eqI rfl rfl) rfl, oP (fun _ => pkTV rfl (bt c20) rfl) rfl, trivial⟩) _ (by exact ⟨.ptr rfl, .ptr rfl, .own rfl, .free rfl rfl, cB rfl (mAndT (bt c20) rfl), trivial⟩) (by rfl)
          · exact .drawM [(22, 44, bo false), (21, 43, und), (20, 42, und), (19, 41, und), (18, 40, und), (17, 39, und), (16, 38, und), (15, 37, und), (14, 36, und), (13, 35, und), (12, 34, und), (11, 33, und), (10, 32, und), (9, 31, bo ((rdl a0.Sinks x5).Node == a1.Node)), (8, 30, bo ((rdl a0.Sinks x5).Node == a1.Node)), (7, 29, i6 a1.Node), (6, 28, .ptr 1 1 4 0 0), (5, 27, i6 ((rdl a0.Sinks x5).Node)), (4, 26, .cptr (TSink.lit (rdl a0.Sinks x5)) 1), (3, 25, .cptr (TSink.lit (rdl a0.Sinks x5)) 0), (2, 24, i6 x5), (1, 23, .rows (a0.Sinks.map TSink.cells)), (0, 22, .ptr 0 1 10 0 9)] [] GG_A0 (by rfl) (by rfl) (by rfl) (by exact ⟨oP (fun _ => faP fa29_9 rfl) rfl, oP (fun _ => ldP rfl sz27 ag27 rfl) rfl, oP (fun _ => mvV rfl) rfl, oP (fun _ => ixR (l := a0.Sinks) (lit := TSink.lit) sl27 rfl rfl (fun _ => rfl) g26_3.1 g26_3.2) rfl, oP (fun _ => faC fa67_1 rfl) rfl, oP (fun _ => ldC rfl sz3 ag3 rfl) rfl, oP (fun _ => faP fa33_0 rfl) rfl, oP (fun _ => ldP rfl sz3 ag3 rfl) rfl, oP (fun _ => eqI rfl rfl) rfl, oP (fun _ => mvV rfl) rfl, oN rfl (fun _ => rfl) (bn c20) rfl, oN rfl (fun _ => rfl) (bn c20) rfl, oN rfl (fun _ => rfl) (bn c20) rfl, oN rfl (fun _ => rfl) (bn c20) rfl, oN rfl (fun _ => rfl) (bn c20) rfl, oN rfl (fun _ => rfl) (bn c20) rfl, oN rfl (fun _ => rfl) (bn c20) rfl, oN rfl (fun _ => rfl) (bn c20) rfl, oN rfl (fun _ => rfl) (bn c20) rfl, oN rfl (fun _ => rfl) (bn c20) rfl, oN rfl (fun _ => rfl) (bn c20) rfl, oN rfl (fun _ => rfl) (bn c20) rfl, oP (fun _ => pkFV rfl (bn c20) rfl) rfl, trivial⟩) _ (by exact ⟨.ptr rfl, .ptr rfl, .own rfl, .free rfl rfl, cB rfl (mAndF (bn c20)), trivial⟩) (by rfl)
        refine .consJ (fun s_ => r22_Leaks.j1 x5 s_ z1) (fun x10 => listEnv [(2, .ptr 0 1 10 0 0), (3, .ptr 1 1 4 0 0), (7, .own 2 x10.length), (8, i6 x5)]) (fun x10 => [⟨10, [(TGraph.lit a0)], 0, none⟩, ⟨4, [(TState.lit a1)], 0, none⟩, ⟨1, x10.map (cInt .i64), 0, none⟩]) ?_ fun hJ1 => ?_
        · rintro x10 h
          unfold r22_Leaks.j1 at h
          try dsimp only at h
          refine .inBlock <| .reg0 rfl (.op 0 rfl (mvV rfl) <| .op 0 rfl (addI rfl rfl) <| .op 0 rfl (asV rfl) <| .nil0) <| .keepL [0, 1, 2] [(2, .ptr 0 1 10 0 0), (3, .ptr 1 1 4 0 0), (7, .own 2 x10.length), (8, i6 (IntKind.i64.wrap (x5 + 1)))] [⟨10, [(TGraph.lit a0)], 0, none⟩, ⟨4, [(TState.lit a1)], 0, none⟩, ⟨1, x10.map (cInt .i64), 0, none⟩] (by decide) (by decide) ⟨.ptr rfl, .ptr rfl, .own rfl, .free rfl rfl, trivial⟩ ⟨⟨_, rfl, bcBox (all2_free rfl)⟩, ⟨_, rfl, bcBox (all2_free rfl)⟩, ⟨_, rfl, bcRow (l := x10) sl23 (Nat.le_refl _) rfl⟩, trivial⟩ ?_
          exact hn1 _ h
        · by_cases c22 : (((rdl a0.Sinks x5).Node == a1.Node) && ((bitOp .and .u64 (shrI .u64 a1.Marks (IntKind.u64.wrap ((rdl a0.Sinks x5).X))) 1) == 1)) = true
          · rw [if_pos c22] at h
            refine .condT rfl c22 ?_
            obtain ⟨g29_3, h⟩ := h
            refine .room 0 <| .room 0 <| .reg0 rfl (.op 0 rfl (mvO rfl) <| .op 0 rfl (mvV rfl) <| .op 3 rfl (bldL (s := 1) (cs := [i6 x5]) un23 sz3 ze3 ⟨by decide, rfl, by decide⟩ rfl rfl rfl rfl) <| .op 0 rfl (ap1 (l := x4) x5 sl23 rfl rfl rfl (Nat.zero_le _) (elems_own (l := [x5]) rfl rfl) g29_3) <| .op 0 rfl (asO rfl) <| .nil0) <| .keepL [0, 1, 2] [(2, .ptr 0 1 10 0 0), (3, .ptr 1 1 4 0 0), (7, .own 2 ((x4 ++ [x5]).length)), (8, i6 x5)] [⟨10, [(TGraph.lit a0)], 0, none⟩, ⟨4, [(TState.lit a1)], 0, none⟩, ⟨1, (x4 ++ [x5]).map (cInt .i64), 0, none⟩] (by decide) (by decide) ⟨.ptr rfl, .ptr rfl, .own rfl, .free rfl rfl, trivial⟩ ⟨⟨_, rfl, bcBox (all2_free rfl)⟩, ⟨_, rfl, bcBox (all2_free rfl)⟩, ⟨_, rfl, bcRow (l := (x4 ++ [x5])) sl23 (Nat.le_refl _) rfl⟩, trivial⟩ ?_
            exact hJ1 _ h
          · rw [if_neg c22] at h
            refine .condF rfl (nb c22) <| .skip <| .keepL [0, 1, 2] [(2, .ptr 0 1 10 0 0), (3, .ptr 1 1 4 0 0), (7, .own 2 x4.length), (8, i6 x5)] [⟨10, [(TGraph.lit a0)], 0, none⟩, ⟨4, [(TState.lit a1)], 0, none⟩, ⟨1, x4.map (cInt .i64), 0, none⟩] (by decide) (by decide) ⟨.ptr rfl, .ptr rfl, .own rfl, .free rfl rfl, trivial⟩ ⟨⟨_, rfl, bcBox (all2_free rfl)⟩, ⟨_, rfl, bcBox (all2_free rfl)⟩, ⟨_, rfl, bcRow (l := x4) sl23 (Nat.le_refl _) rfl⟩, trivial⟩ ?_
            exact hJ1 _ h
      · rw [if_neg c16] at h
        refine .condF rfl (df c16) <| .exit rfl <| .keepL [2] [(7, .own 0 x4.length)] [⟨1, x4.map (cInt .i64), 0, none⟩] (by decide) (by decide) ⟨.own rfl, trivial⟩ ⟨⟨_, rfl, bcRow (l := x4) sl23 (Nat.le_refl _) rfl⟩, trivial⟩ ?_
        exact hx1 _ h
  · rw [if_neg c1] at h
    refine .condT rfl (nt c1) <| .seq <| .reg0 rfl (.op 0 rfl (mvV rfl) <| .op 0 rfl (asV rfl) <| .op 0 rfl (asV rfl) <| .nil0) ?_
    replace h := h.symm
    subst h
    refine .k [(4, .rows (([] : List Int).map (cInt .i64))), (5, i6 t2_2)] ⟨.nil, .free rfl rfl, trivial⟩ ?_
    exact .ret rfl
def r22_Same.b1 (a0 : TState) (a1 : TState) : Int → Rnd Int Unit Bool → Prop := fun x1 z1 => if x1 < (a0.Env.length : Int) then (((InR x1 a0.Env.length)) ∧ ((InR x1 a1.Env.length)) ∧ if (rdl a0.Env x1) = (rdl a1.Env x1) then (z1 = .next (IntKind.i64.wrap (x1 + 1))) else (z1 = .ret false)) else (z1 = .exit ())
def r22_Same.b2 (a0 : TState) (a1 : TState) : Int → Rnd Int Unit Bool → Prop := fun x2 z2 => if x2 < (a0.Stack.length : Int) then (((InR x2 a0.Stack.length)) ∧ ((InR x2 a1.Stack.length)) ∧ if (rdl a0.Stack x2) = (rdl a1.Stack x2) then (z2 = .next (IntKind.i64.wrap (x2 + 1))) else (z2 = .ret false)) else (z2 = .exit ())
def r22_Same.f (a0 : TState) (a1 : TState) (r : Bool) : Prop :=
  if ((!(a0.Node == a1.Node)) || ((!(a0.Marks == a1.Marks)) || ((!((a0.Env.length : Int) == (a1.Env.length : Int))) || ((a0.Stack.length : Int) != (a1.Stack.length : Int))))) = true then (r = false) else (∃ o1 : Fin Unit Bool, Loop (r22_Same.b1 a0 a1) 0 o1 ∧ o1.on (fun _ => ∃ o2 : Fin Unit Bool, Loop (r22_Same.b2 a0 a1) 0 o2 ∧ o2.on (fun _ => r = true) (fun r_ => r = r_)) (fun r_ => r = r_))
theorem r22_Same.D {a0 a1 r} (h : r22_Same.f a0 a1 r) : D Tryz.prog X (.callH 14 [.agg (TState.lit a0), .agg (TState.lit a1)] [] (.val (.bool r)) []) := by
  unfold r22_Same.f at h
  refine .enter 73 0 fn14 rfl rfl rfl <| .seq <| .room 0 <| .room 0 <| .reg0 rfl (.op 0 rfl (bxP (s := 4) (cs := (TState.lit a0)) rfl ⟨rfl, by decide, rfl⟩ rfl) <| .op 1 rfl (bxP (s := 4) (cs := (TState.lit a1)) rfl ⟨rfl, by decide, rfl⟩ rfl) <| .op 0 rfl (asV rfl) <| .nil0) <| .seq <| .seq ?_
  refine .reg0 (e1 := listEnv [(2, .ptr 0 1 4 0 0), (3, .ptr 1 1 4 0 0), (36, bo ((!(a0.Node == a1.Node)) || ((!(a0.Marks == a1.Marks)) || ((!((a0.Env.length : Int) == (a1.Env.length : Int))) || ((a0.Stack.length : Int) != (a1.Stack.length : Int))))))]) (H1 := [⟨4, [(TState.lit a0)], 0, none⟩, ⟨4, [(TState.lit a1)], 0, none⟩]) rfl ?_ ?_
  · refine .o (faP fa33_0 rfl) <| .o (ldP rfl sz3 ag3 rfl) <| .o (faP fa33_0 rfl) <| .o (ldP rfl sz3 ag3 rfl) <| .o (neI rfl rfl) <| .m rfl <| ?_
    by_cases c1 : a0.Node = a1.Node
    · refine .g rfl (nf c1) (faP fa33_2 rfl) <| .g rfl (nf c1) (ldP rfl sz31 ag31 rfl) <| .g rfl (nf c1) (faP fa33_2 rfl) <| .g rfl (nf c1) (ldP rfl sz31 ag31 rfl) <| .g rfl (nf c1) (neI rfl rfl) <| .o (pkFV rfl (nf c1) rfl) <| .m rfl <| ?_
      by_cases c2 : a0.Marks = a1.Marks
      · refine .g rfl (nf c2) (faP fa33_1 rfl) <| .g rfl (nf c2) (ldP rfl sz30 ag30 rfl) <| .g rfl (nf c2) (lnR (l := a0.Env) sl30 rfl) <| .g rfl (nf c2) (faP fa33_1 rfl) <| .g rfl (nf c2) (ldP rfl sz30 ag30 rfl) <| .g rfl (nf c2) (lnR (l := a1.Env) sl30 rfl) <| .g rfl (nf c2) (neI rfl rfl) <| .o (pkFV rfl (nf c2) rfl) <| .m rfl <| ?_
        by_cases c3 : (a0.Env.length : Int) = (a1.Env.length : Int)
        · exact (.g rfl (nf c3) (faP fa33_3 rfl) <| .g rfl (nf c3) (ldP rfl sz23 ag23 rfl) <| .g rfl (nf c3) (lnR (l := a0.Stack) sl23 rfl) <| .g rfl (nf c3) (faP fa33_3 rfl) <| .g rfl (nf c3) (ldP rfl sz23 ag23 rfl) <| .g rfl (nf c3) (lnR (l := a1.Stack) sl23 rfl) <| .g rfl (nf c3) (neI rfl rfl) <| .o (pkFV rfl (nf c3) rfl) <| .nilL _ ⟨.ptr rfl, .ptr rfl, cB rfl (mOrF (bnotF (bt c1)) (mOrF (bnotF (bt c2)) (mOrF (bnotF (bt c3)) rfl))), trivial⟩)
        · exact (.n rfl (nt c3) <| .n rfl (nt c3) <| .n rfl (nt c3) <| .n rfl (nt c3) <| .n rfl (nt c3) <| .n rfl (nt c3) <| .n rfl (nt c3) <| .o (pkTV rfl (nt c3) rfl) <| .nilL _ ⟨.ptr rfl, .ptr rfl, cB rfl (mOrF (bnotF (bt c1)) (mOrF (bnotF (bt c2)) (mOrT (bnotT (bn c3))))), trivial⟩)
      · exact (.n rfl (nt c2) <| .n rfl (nt c2) <| .n rfl (nt c2) <| .n rfl (nt c2) <| .n rfl (nt c2) <| .n rfl (nt c2) <| .n rfl (nt c2) <| .o (pkTV rfl (nt c2) rfl) <| .m rfl <| .n rfl rfl <| .n rfl rfl <| .n rfl rfl <| .n rfl rfl <| .n rfl rfl <| .n rfl rfl <| .n rfl rfl <| .o (pkTV rfl rfl rfl) <| .nilL _ ⟨.ptr rfl, .ptr rfl, cB rfl (mOrF (bnotF (bt c1)) (mOrT (bnotT (bn c2)))), trivial⟩)
    · exact (.n rfl (nt c1) <| .n rfl (nt c1) <| .n rfl (nt c1) <| .n rfl (nt c1) <| .n rfl (nt c1) <| .o (pkTV rfl (nt c1) rfl) <| .m rfl <| .n rfl rfl <| .n rfl rfl <| .n rfl rfl <| .n rfl rfl <| .n rfl rfl <| .n rfl rfl <| .n rfl rfl <| .o (pkTV rfl rfl rfl) <| .m rfl <| .n rfl rfl <| .n rfl rfl <| .n rfl rfl <| .n rfl rfl <| .n rfl rfl <| .n rfl rfl <| .n rfl rfl <| .o (pkTV rfl rfl rfl) <| .nilL _ ⟨.ptr rfl, .ptr rfl, cB rfl (mOrT (bnotT (bn c1))), trivial⟩)
  by_cases c4 : ((!(a0.Node == a1.Node)) || ((!(a0.Marks == a1.Marks)) || ((!((a0.Env.length : Int) == (a1.Env.length : Int))) || ((a0.Stack.length : Int) != (a1.Stack.length : Int))))) = true
  · rw [if_pos c4] at h
    refine .condT rfl c4 <| .seq <| .reg0 rfl (.op 0 rfl (asV rfl) <| .nil0) ?_
    replace h := h.symm
    subst h
    refine .kf [(4, bo false)] rfl rfl ?_
    exact .ret rfl
  · rw [if_neg c4] at h
    refine .condF rfl (nb c4) <| .skip <| .seq <| .seq <| .reg0 rfl (.op 0 rfl (asV rfl) <| .nil0) <| .block <| .keepL [0, 1] [(2, .ptr 0 1 4 0 0), (3, .ptr 1 1 4 0 0), (5, i6 0)] [⟨4, [(TState.lit a0)], 0, none⟩, ⟨4, [(TState.lit a1)], 0, none⟩] (by decide) (by decide) ⟨.ptr rfl, .ptr rfl, .free rfl rfl, trivial⟩ ⟨⟨_, rfl, bcBox (all2_free rfl)⟩, ⟨_, rfl, bcBox (all2_free rfl)⟩, trivial⟩ ?_
    obtain ⟨o1, hL1, h⟩ := h
    refine .loopB (r22_Same.b1 a0 a1) (fun x1 => listEnv [(2, .ptr 0 1 4 0 0), (3, .ptr 1 1 4 0 0), (5, i6 x1)]) (fun x1 => [⟨4, [(TState.lit a0)], 0, none⟩, ⟨4, [(TState.lit a1)], 0, none⟩]) (fun _ => listEnv [(2, .ptr 0 1 4 0 0), (3, .ptr 1 1 4 0 0)]) (fun _ => [⟨4, [(TState.lit a0)], 0, none⟩, ⟨4, [(TState.lit a1)], 0, none⟩]) hL1 (fun r_ => r = r_) ?_ ?_ ?_
    · rintro ⟨⟩ rfl
      try dsimp only [Fin.on] at h
      refine .seq <| .seq <| .reg0 rfl (.op 0 rfl (asV rfl) <| .nil0) <| .block <| .keepL [0, 1] [(2, .ptr 0 1 4 0 0), (3, .ptr 1 1 4 0 0), (6, i6 0)] [⟨4, [(TState.lit a0)], 0, none⟩, ⟨4, [(TState.lit a1)], 0, none⟩] (by decide) (by decide) ⟨.ptr rfl, .ptr rfl, .free rfl rfl, trivial⟩ ⟨⟨_, rfl, bcBox (all2_free rfl)⟩, ⟨_, rfl, bcBox (all2_free rfl)⟩, trivial⟩ ?_
      obtain ⟨o2, hL2, h⟩ := h
      refine .loopB (r22_Same.b2 a0 a1) (fun x2 => listEnv [(2, .ptr 0 1 4 0 0), (3, .ptr 1 1 4 0 0), (6, i6 x2)]) (fun x2 => [⟨4, [(TState.lit a0)], 0, none⟩, ⟨4, [(TState.lit a1)], 0, none⟩]) (fun _ => listEnv []) (fun _ => []) hL2 (fun r_ => r = r_) ?_ ?_ ?_
      · rintro ⟨⟩ rfl
        try dsimp only [Fin.on] at h
        refine .seq <| .reg0 rfl (.op 0 rfl (asV rfl) <| .nil0) ?_
        replace h := h.symm
        subst h
        refine .kf [(4, bo true)] rfl rfl ?_
        exact .ret rfl
      · rintro r_ rfl
        exact h
      · rintro x2 z2 h hn2 hx2 hr2
        dsimp only [r22_Same.b2] at h
        refine .seq <| .seq <| .reg0 rfl (.op 0 rfl (mvV rfl) <| .op 0 rfl (faP fa33_3 rfl) <| .op 0 rfl (ldP rfl sz23 ag23 rfl) <| .op 0 rfl (lnR (l := a0.Stack) sl23 rfl) <| .op 0 rfl (ltI rfl rfl) <| .nil0) ?_
        by_cases c15 : x2 < (a0.Stack.length : Int)
        · rw [if_pos c15] at h
          refine .condT rfl (dt c15) <| .skip <| .seq <| .block <| .seq ?_
          obtain ⟨g27_3, h⟩ := h
          obtain ⟨g27_8, h⟩ := h
          refine .reg1 (e1 := listEnv [(2, .ptr 0 1 4 0 0), (3, .ptr 1 1 4 0 0), (6, i6 x2), (72, bo ((rdl a0.Stack x2) != (rdl a1.Stack x2)))]) (H1 := [⟨4, [(TState.lit a0)], 0, none⟩, ⟨4, [(TState.lit a1)], 0, none⟩]) rfl ?_ ?_
          · exact .drawM [(10, 72, bo ((rdl a0.Stack x2) != (rdl a1.Stack x2))), (9, 71, i6 (rdl a1.Stack x2)), (8, 70, .cptr ((cInt .i64) (rdl a1.Stack x2)) 0), (7, 69, i6 x2), (6, 68, .rows (a1.Stack.map (cInt .i64))), (5, 67, .ptr 1 1 4 0 3), (4, 66, i6 (rdl a0.Stack x2)), (3, 65, .cptr ((cInt .i64) (rdl a0.Stack x2)) 0), (2, 64, i6 x2), (1, 63, .rows (a0.Stack.map (cInt .i64))), (0, 62, .ptr 0 1 4 0 3)] [] [[], [0], [], [1, 0, 2], [3, 1, 0, 2], [], [5], [], [6, 5, 7], [8, 6, 5, 7], [4, 3, 1, 0, 2, 9, 8, 6, 5, 7]] (by rfl) (by rfl) (by rfl) (by exact ⟨oP (fun _ => faP fa33_3 rfl) rfl, oP (fun _ => ldP rfl sz23 ag23 rfl) rfl, oP (fun _ => mvV rfl) rfl, oP (fun _ => ixR (l := a0.Stack) (lit := (cInt .i64)) sl23 rfl rfl (fun _ => rfl) g27_3.1 g27_3.2) rfl, oP (fun _ => ldC rfl sz3 ag3 rfl) rfl, oP (fun _ => faP fa33_3 rfl) rfl, oP (fun _ => ldP rfl sz23 ag23 rfl) rfl, oP (fun _ => mvV rfl) rfl, oP (fun _ => ixR (l := a1.Stack) (lit := (cInt .i64)) sl23 rfl rfl (fun _ => rfl) g27_8.1 g27_8.2) rfl, oP (fun _ => ldC rfl sz3 ag3 rfl) rfl, oP (fun _ => neI rfl rfl) rfl, trivial⟩) _ (by exact ⟨.ptr rfl, .ptr rfl, .free rfl rfl, .free rfl rfl, trivial⟩) (by rfl)
          by_cases c16 : (rdl a0.Stack x2) = (rdl a1.Stack x2)
          · rw [if_pos c16] at h
            refine .condF rfl (nf c16) <| .skip <| .inBlock <| .reg0 rfl (.op 0 rfl (mvV rfl) <| .op 0 rfl (addI rfl rfl) <| .op 0 rfl (asV rfl) <| .nil0) <| .keepL [0, 1] [(2, .ptr 0 1 4 0 0), (3, .ptr 1 1 4 0 0), (6, i6 (IntKind.i64.wrap (x2 + 1)))] [⟨4, [(TState.lit a0)], 0, none⟩, ⟨4, [(TState.lit a1)], 0, none⟩] (by decide) (by decide) ⟨.ptr rfl, .ptr rfl, .free rfl rfl, trivial⟩ ⟨⟨_, rfl, bcBox (all2_free rfl)⟩, ⟨_, rfl, bcBox (all2_free rfl)⟩, trivial⟩ ?_
            exact hn2 _ h
          · rw [if_neg c16] at h
            refine .condT rfl (nt c16) <| .seq <| .reg0 rfl (.op 0 rfl (asV rfl) <| .nil0) ?_
            have q6 := hr2 _ h
            replace q6 := q6.symm
            subst q6
            refine .kf [(4, bo false)] rfl rfl ?_
            exact .ret rfl
        · rw [if_neg c15] at h
          refine .condF rfl (df c15) <| .exit rfl <| .keepL [] [] [] (by decide) (by decide) trivial trivial ?_
          exact hx2 _ h
    · rintro r_ rfl
      exact h
    · rintro x1 z1 h hn1 hx1 hr1
      dsimp only [r22_Same.b1] at h
      refine .seq <| .seq <| .reg0 rfl (.op 0 rfl (mvV rfl) <| .op 0 rfl (faP fa33_1 rfl) <| .op 0 rfl (ldP rfl sz30 ag30 rfl) <| .op 0 rfl (lnR (l := a0.Env) sl30 rfl) <| .op 0 rfl (ltI rfl rfl) <| .nil0) ?_
      by_cases c9 : x1 < (a0.Env.length : Int)
      · rw [if_pos c9] at h
        refine .condT rfl (dt c9) <| .skip <| .seq <| .block <| .seq ?_
        obtain ⟨g14_3, h⟩ := h
        obtain ⟨g14_8, h⟩ := h
        refine .reg1 (e1 := listEnv [(2, .ptr 0 1 4 0 0), (3, .ptr 1 1 4 0 0), (5, i6 x1), (54, bo ((rdl a0.Env x1) != (rdl a1.Env x1)))]) (H1 := [⟨4, [(TState.lit a0)], 0, none⟩, ⟨4, [(TState.lit a1)], 0, none⟩]) rfl ?_ ?_
        · exact .drawM [(10, 54, bo ((rdl a0.Env x1) != (rdl a1.Env x1))), (9, 53, i6 (rdl a1.Env x1)), (8, 52, .cptr ((cInt .i64) (rdl a1.Env x1)) 0), (7, 51, i6 x1), (6, 50, .rows (a1.Env.map (cInt .i64))), (5, 49, .ptr 1 1 4 0 1), (4, 48, i6 (rdl a0.Env x1)), (3, 47, .cptr ((cInt .i64) (rdl a0.Env x1)) 0), (2, 46, i6 x1), (1, 45, .rows (a0.Env.map (cInt .i64))), (0, 44, .ptr 0 1 4 0 1)] [] [[], [0], [], [1, 0, 2], [3, 1, 0, 2], [], [5], [], [6, 5, 7], [8, 6, 5, 7], [4, 3, 1, 0, 2, 9, 8, 6, 5, 7]] (by rfl) (by rfl) (by rfl) (by exact ⟨oP (fun _ => faP fa33_1 rfl) rfl, oP (fun _ => ldP rfl sz30 ag30 rfl) rfl, oP (fun _ => mvV rfl) rfl, oP (fun _ => ixR (l := a0.Env) (lit := (cInt .i64)) sl30 rfl rfl (fun _ => rfl) g14_3.1 g14_3.2) rfl, oP (fun _ => ldC rfl sz2 ag2 rfl) rfl, oP (fun _ => faP fa33_1 rfl) rfl, oP (fun _ => ldP rfl sz30 ag30 rfl) rfl, oP (fun _ => mvV rfl) rfl, oP (fun _ => ixR (l := a1.Env) (lit := (cInt .i64)) sl30 rfl rfl (fun _ => rfl) g14_8.1 g14_8.2) rfl, oP (fun _ => ldC rfl sz2 ag2 rfl) rfl, oP (fun _ => neI rfl rfl) rfl, trivial⟩) _ (by exact ⟨.ptr rfl, .ptr rfl, .free rfl rfl, .free rfl rfl, trivial⟩) (by rfl)
        by_cases c10 : (rdl a0.Env x1) = (rdl a1.Env x1)
        · rw [if_pos c10] at h
          refine .condF rfl (nf c10) <| .skip <| .inBlock <| .reg0 rfl (.op 0 rfl (mvV rfl) <| .op 0 rfl (addI rfl rfl) <| .op 0 rfl (asV rfl) <| .nil0) <| .keepL [0, 1] [(2, .ptr 0 1 4 0 0), (3, .ptr 1 1 4 0 0), (5, i6 (IntKind.i64.wrap (x1 + 1)))] [⟨4, [(TState.lit a0)], 0, none⟩, ⟨4, [(TState.lit a1)], 0, none⟩] (by decide) (by decide) ⟨.ptr rfl, .ptr rfl, .free rfl rfl, trivial⟩ ⟨⟨_, rfl, bcBox (all2_free rfl)⟩, ⟨_, rfl, bcBox (all2_free rfl)⟩, trivial⟩ ?_
          exact hn1 _ h
        · rw [if_neg c10] at h
          refine .condT rfl (nt c10) <| .seq <| .reg0 rfl (.op 0 rfl (asV rfl) <| .nil0) ?_
          have q3 := hr1 _ h
          replace q3 := q3.symm
          subst q3
          refine .kf [(4, bo false)] rfl rfl ?_
          exact .ret rfl
      · rw [if_neg c9] at h
        refine .condF rfl (df c9) <| .exit rfl <| .keepL [0, 1] [(2, .ptr 0 1 4 0 0), (3, .ptr 1 1 4 0 0)] [⟨4, [(TState.lit a0)], 0, none⟩, ⟨4, [(TState.lit a1)], 0, none⟩] (by decide) (by decide) ⟨.ptr rfl, .ptr rfl, trivial⟩ ⟨⟨_, rfl, bcBox (all2_free rfl)⟩, ⟨_, rfl, bcBox (all2_free rfl)⟩, trivial⟩ ?_
        exact hx1 _ h
def l22_numbers.b1 (a0 : List Int) (a1 : List Int) : Int → Rnd Int Unit Bool → Prop := fun x1 z1 => if x1 < (a0.length : Int) then (((InR x1 a0.length)) ∧ ((InR x1 a1.length)) ∧ if (rdl a0 x1) = (rdl a1 x1) then (z1 = .next (IntKind.i64.wrap (x1 + 1))) else (z1 = .ret false)) else (z1 = .exit ())
def l22_numbers.f (a0 : List Int) (a1 : List Int) (r : Bool) : Prop :=
  if (a0.length : Int) = (a1.length : Int) then (∃ o1 : Fin Unit Bool, Loop (l22_numbers.b1 a0 a1) 0 o1 ∧ o1.on (fun _ => r = true) (fun r_ => r = r_)) else (r = false)
theorem l22_numbers.D {a0 a1 r} (h : l22_numbers.f a0 a1 r) : D Tryz.prog X (.callH 15 [.rows (a0.map (cInt .i64)), .rows (a1.map (cInt .i64))] [] (.val (.bool r)) []) := by
  unfold l22_numbers.f at h
  refine .enter 26 0 fn15 rfl rfl rfl <| .seq <| .reg0 rfl (.op 0 rfl (asV rfl) <| .nil0) <| .seq <| .seq <| .reg0 rfl (.op 0 rfl (mvR rfl) <| .op 0 rfl (lnR (l := a0) sl23 rfl) <| .op 0 rfl (mvR rfl) <| .op 0 rfl (lnR (l := a1) sl23 rfl) <| .op 0 rfl (neI rfl rfl) <| .nil0) ?_
  by_cases c1 : (a0.length : Int) = (a1.length : Int)
  · rw [if_pos c1] at h
    refine .condF rfl (nf c1) <| .skip <| .seq <| .seq <| .reg0 rfl (.op 0 rfl (asV rfl) <| .nil0) <| .block <| .keepL [] [(0, .rows (a0.map (cInt .i64))), (1, .rows (a1.map (cInt .i64))), (5, i6 0)] [] (by decide) (by decide) ⟨.free rfl rfl, .free rfl rfl, .free rfl rfl, trivial⟩ trivial ?_
    obtain ⟨o1, hL1, h⟩ := h
    refine .loopB (l22_numbers.b1 a0 a1) (fun x1 => listEnv [(0, .rows (a0.map (cInt .i64))), (1, .rows (a1.map (cInt .i64))), (5, i6 x1)]) (fun x1 => []) (fun _ => listEnv []) (fun _ => []) hL1 (fun r_ => r = r_) ?_ ?_ ?_
    · rintro ⟨⟩ rfl
      try dsimp only [Fin.on] at h
      refine .seq <| .reg0 rfl (.op 0 rfl (asV rfl) <| .nil0) ?_
      replace h := h.symm
      subst h
      refine .kf [(4, bo true)] rfl rfl ?_
      exact .ret rfl
    · rintro r_ rfl
      exact h
    · rintro x1 z1 h hn1 hx1 hr1
      dsimp only [l22_numbers.b1] at h
      refine .seq <| .seq <| .reg0 rfl (.op 0 rfl (mvV rfl) <| .op 0 rfl (mvR rfl) <| .op 0 rfl (lnR (l := a0) sl23 rfl) <| .op 0 rfl (ltI rfl rfl) <| .nil0) ?_
      by_cases c6 : x1 < (a0.length : Int)
      · rw [if_pos c6] at h
        refine .condT rfl (dt c6) <| .skip <| .seq <| .block <| .seq ?_
        obtain ⟨g13_2, h⟩ := h
        obtain ⟨g13_6, h⟩ := h
        refine .reg1 (e1 := listEnv [(0, .rows (a0.map (cInt .i64))), (1, .rows (a1.map (cInt .i64))), (5, i6 x1), (25, bo ((rdl a0 x1) != (rdl a1 x1)))]) (H1 := []) rfl ?_ ?_
        · exact .drawM [(8, 25, bo ((rdl a0 x1) != (rdl a1 x1))), (7, 24, i6 (rdl a1 x1)), (6, 23, .cptr ((cInt .i64) (rdl a1 x1)) 0), (5, 22, i6 x1), (4, 21, .rows (a1.map (cInt .i64))), (3, 20, i6 (rdl a0 x1)), (2, 19, .cptr ((cInt .i64) (rdl a0 x1)) 0), (1, 18, i6 x1), (0, 17, .rows (a0.map (cInt .i64)))] [] [[], [], [0, 1], [2, 0, 1], [], [], [4, 5], [6, 4, 5], [3, 2, 0, 1, 7, 6, 4, 5]] (by rfl) (by rfl) (by rfl) (by exact ⟨oP (fun _ => mvR rfl) rfl, oP (fun _ => mvV rfl) rfl, oP (fun _ => ixR (l := a0) (lit := (cInt .i64)) sl23 rfl rfl (fun _ => rfl) g13_2.1 g13_2.2) rfl, oP (fun _ => ldC rfl sz3 ag3 rfl) rfl, oP (fun _ => mvR rfl) rfl, oP (fun _ => mvV rfl) rfl, oP (fun _ => ixR (l := a1) (lit := (cInt .i64)) sl23 rfl rfl (fun _ => rfl) g13_6.1 g13_6.2) rfl, oP (fun _ => ldC rfl sz3 ag3 rfl) rfl, oP (fun _ => neI rfl rfl) rfl, trivial⟩) _ (by exact ⟨.free rfl rfl, .free rfl rfl, .free rfl rfl, .free rfl rfl, trivial⟩) (by rfl)
        by_cases c7 : (rdl a0 x1) = (rdl a1 x1)
        · rw [if_pos c7] at h
          refine .condF rfl (nf c7) <| .skip <| .inBlock <| .reg0 rfl (.op 0 rfl (mvV rfl) <| .op 0 rfl (addI rfl rfl) <| .op 0 rfl (asV rfl) <| .nil0) <| .kf [(0, .rows (a0.map (cInt .i64))), (1, .rows (a1.map (cInt .i64))), (5, i6 (IntKind.i64.wrap (x1 + 1)))] rfl rfl ?_
          exact hn1 _ h
        · rw [if_neg c7] at h
          refine .condT rfl (nt c7) <| .seq <| .reg0 rfl (.op 0 rfl (asV rfl) <| .nil0) ?_
          have q3 := hr1 _ h
          replace q3 := q3.symm
          subst q3
          refine .kf [(4, bo false)] rfl rfl ?_
          exact .ret rfl
      · rw [if_neg c6] at h
        refine .condF rfl (df c6) <| .exit rfl <| .keepL [] [] [] (by decide) (by decide) trivial trivial ?_
        exact hx1 _ h
  · rw [if_neg c1] at h
    refine .condT rfl (nt c1) <| .seq <| .reg0 rfl (.op 0 rfl (asV rfl) <| .nil0) ?_
    replace h := h.symm
    subst h
    refine .kf [(4, bo false)] rfl rfl ?_
    exact .ret rfl
def slices_Equal_int64.b1 (a0 : List Int) (a1 : List Int) : Int → Rnd Int Unit Bool → Prop := fun x1 z1 => if x1 < (a0.length : Int) then (((InR x1 a0.length)) ∧ ((InR x1 a1.length)) ∧ if (rdl a0 x1) = (rdl a1 x1) then (z1 = .next (IntKind.i64.wrap (x1 + 1))) else (z1 = .ret false)) else (z1 = .exit ())
def slices_Equal_int64.f (a0 : List Int) (a1 : List Int) (r : Bool) : Prop :=
  if (a0.length : Int) = (a1.length : Int) then (∃ o1 : Fin Unit Bool, Loop (slices_Equal_int64.b1 a0 a1) 0 o1 ∧ o1.on (fun _ => r = true) (fun r_ => r = r_)) else (r = false)
theorem slices_Equal_int64.D {a0 a1 r} (h : slices_Equal_int64.f a0 a1 r) : D Tryz.prog X (.callH 31 [.rows (a0.map (cInt .i64)), .rows (a1.map (cInt .i64))] [] (.val (.bool r)) []) := by
  unfold slices_Equal_int64.f at h
  refine .enter 26 0 fn31 rfl rfl rfl <| .seq <| .reg0 rfl (.op 0 rfl (asV rfl) <| .nil0) <| .seq <| .seq <| .reg0 rfl (.op 0 rfl (mvR rfl) <| .op 0 rfl (lnR (l := a0) sl30 rfl) <| .op 0 rfl (mvR rfl) <| .op 0 rfl (lnR (l := a1) sl30 rfl) <| .op 0 rfl (neI rfl rfl) <| .nil0) ?_
  by_cases c1 : (a0.length : Int) = (a1.length : Int)
  · rw [if_pos c1] at h
    refine .condF rfl (nf c1) <| .skip <| .seq <| .seq <| .reg0 rfl (.op 0 rfl (mvR rfl) <| .op 0 rfl (lnR (l := a0) sl30 rfl) <| .op 0 rfl (mvV rfl) <| .nil0) <| .block <| .keepL [] [(0, .rows (a0.map (cInt .i64))), (1, .rows (a1.map (cInt .i64))), (12, i6 (a0.length : Int)), (13, i6 0)] [] (by decide) (by decide) ⟨.free rfl rfl, .free rfl rfl, .free rfl rfl, .free rfl rfl, trivial⟩ trivial ?_
    obtain ⟨o1, hL1, h⟩ := h
    refine .loopB (slices_Equal_int64.b1 a0 a1) (fun x1 => listEnv [(0, .rows (a0.map (cInt .i64))), (1, .rows (a1.map (cInt .i64))), (12, i6 (a0.length : Int)), (13, i6 x1)]) (fun x1 => []) (fun _ => listEnv []) (fun _ => []) hL1 (fun r_ => r = r_) ?_ ?_ ?_
    · rintro ⟨⟩ rfl
      try dsimp only [Fin.on] at h
      refine .seq <| .reg0 rfl (.op 0 rfl (asV rfl) <| .nil0) ?_
      replace h := h.symm
      subst h
      refine .kf [(4, bo true)] rfl rfl ?_
      exact .ret rfl
    · rintro r_ rfl
      exact h
    · rintro x1 z1 h hn1 hx1 hr1
      dsimp only [slices_Equal_int64.b1] at h
      refine .seq <| .reg0 rfl (.op 0 rfl (ltI rfl rfl) <| .nil0) <| .seq ?_
      by_cases c6 : x1 < (a0.length : Int)
      · rw [if_pos c6] at h
        refine .condT rfl (dt c6) <| .skip <| .seq <| .block <| .seq <| .reg0 rfl (.op 0 rfl (mvV rfl) <| .op 0 rfl (asV rfl) <| .nil0) <| .seq ?_
        obtain ⟨g16_2, h⟩ := h
        obtain ⟨g16_6, h⟩ := h
        refine .reg1 (e1 := listEnv [(0, .rows (a0.map (cInt .i64))), (1, .rows (a1.map (cInt .i64))), (12, i6 (a0.length : Int)), (13, i6 x1), (24, bo ((rdl a0 x1) != (rdl a1 x1)))]) (H1 := []) rfl ?_ ?_
        · exact .drawM [(8, 24, bo ((rdl a0 x1) != (rdl a1 x1))), (7, 23, i6 (rdl a1 x1)), (6, 22, .cptr ((cInt .i64) (rdl a1 x1)) 0), (5, 21, i6 x1), (4, 20, .rows (a1.map (cInt .i64))), (3, 19, i6 (rdl a0 x1)), (2, 18, .cptr ((cInt .i64) (rdl a0 x1)) 0), (1, 17, i6 x1), (0, 16, .rows (a0.map (cInt .i64)))] [] [[], [], [0, 1], [2, 0, 1], [], [], [4, 5], [6, 4, 5], [3, 2, 0, 1, 7, 6, 4, 5]] (by rfl) (by rfl) (by rfl) (by exact ⟨oP (fun _ => mvR rfl) rfl, oP (fun _ => mvV rfl) rfl, oP (fun _ => ixR (l := a0) (lit := (cInt .i64)) sl30 rfl rfl (fun _ => rfl) g16_2.1 g16_2.2) rfl, oP (fun _ => ldC rfl sz2 ag2 rfl) rfl, oP (fun _ => mvR rfl) rfl, oP (fun _ => mvV rfl) rfl, oP (fun _ => ixR (l := a1) (lit := (cInt .i64)) sl30 rfl rfl (fun _ => rfl) g16_6.1 g16_6.2) rfl, oP (fun _ => ldC rfl sz2 ag2 rfl) rfl, oP (fun _ => neI rfl rfl) rfl, trivial⟩) _ (by exact ⟨.free rfl rfl, .free rfl rfl, .free rfl rfl, .free rfl rfl, .free rfl rfl, trivial⟩) (by rfl)
        by_cases c7 : (rdl a0 x1) = (rdl a1 x1)
        · rw [if_pos c7] at h
          refine .condF rfl (nf c7) <| .skip <| .inBlock <| .reg0 rfl (.op 0 rfl (addI rfl rfl) <| .op 0 rfl (mvV rfl) <| .nil0) <| .kf [(0, .rows (a0.map (cInt .i64))), (1, .rows (a1.map (cInt .i64))), (12, i6 (a0.length : Int)), (13, i6 (IntKind.i64.wrap (x1 + 1)))] rfl rfl ?_
          exact hn1 _ h
        · rw [if_neg c7] at h
          refine .condT rfl (nt c7) <| .seq <| .reg0 rfl (.op 0 rfl (asV rfl) <| .nil0) ?_
          have q3 := hr1 _ h
          replace q3 := q3.symm
          subst q3
          refine .kf [(4, bo false)] rfl rfl ?_
          exact .ret rfl
      · rw [if_neg c6] at h
        refine .condF rfl (df c6) <| .exit rfl <| .keepL [] [] [] (by decide) (by decide) trivial trivial ?_
        exact hx1 _ h
  · rw [if_neg c1] at h
    refine .condT rfl (nt c1) <| .seq <| .reg0 rfl (.op 0 rfl (asV rfl) <| .nil0) ?_
    replace h := h.symm
    subst h
    refine .kf [(4, bo false)] rfl rfl ?_
    exact .ret rfl
def slices_Equal_int.b1 (a0 : List Int) (a1 : List Int) : Int → Rnd Int Unit Bool → Prop := fun x1 z1 => if x1 < (a0.length : Int) then (((InR x1 a0.length)) ∧ ((InR x1 a1.length)) ∧ if (rdl a0 x1) = (rdl a1 x1) then (z1 = .next (IntKind.i64.wrap (x1 + 1))) else (z1 = .ret false)) else (z1 = .exit ())
def slices_Equal_int.f (a0 : List Int) (a1 : List Int) (r : Bool) : Prop :=
  if (a0.length : Int) = (a1.length : Int) then (∃ o1 : Fin Unit Bool, Loop (slices_Equal_int.b1 a0 a1) 0 o1 ∧ o1.on (fun _ => r = true) (fun r_ => r = r_)) else (r = false)
theorem slices_Equal_int.D {a0 a1 r} (h : slices_Equal_int.f a0 a1 r) : D Tryz.prog X (.callH 32 [.rows (a0.map (cInt .i64)), .rows (a1.map (cInt .i64))] [] (.val (.bool r)) []) := by
  unfold slices_Equal_int.f at h
  refine .enter 26 0 fn32 rfl rfl rfl <| .seq <| .reg0 rfl (.op 0 rfl (asV rfl) <| .nil0) <| .seq <| .seq <| .reg0 rfl (.op 0 rfl (mvR rfl) <| .op 0 rfl (lnR (l := a0) sl23 rfl) <| .op 0 rfl (mvR rfl) <| .op 0 rfl (lnR (l := a1) sl23 rfl) <| .op 0 rfl (neI rfl rfl) <| .nil0) ?_
  by_cases c1 : (a0.length : Int) = (a1.length : Int)
  · rw [if_pos c1] at h
    refine .condF rfl (nf c1) <| .skip <| .seq <| .seq <| .reg0 rfl (.op 0 rfl (mvR rfl) <| .op 0 rfl (lnR (l := a0) sl23 rfl) <| .op 0 rfl (mvV rfl) <| .nil0) <| .block <| .keepL [] [(0, .rows (a0.map (cInt .i64))), (1, .rows (a1.map (cInt .i64))), (12, i6 (a0.length : Int)), (13, i6 0)] [] (by decide) (by decide) ⟨.free rfl rfl, .free rfl rfl, .free rfl rfl, .free rfl rfl, trivial⟩ trivial ?_
    obtain ⟨o1, hL1, h⟩ := h
    refine .loopB (slices_Equal_int.b1 a0 a1) (fun x1 => listEnv [(0, .rows (a0.map (cInt .i64))), (1, .rows (a1.map (cInt .i64))), (12, i6 (a0.length : Int)), (13, i6 x1)]) (fun x1 => []) (fun _ => listEnv []) (fun _ => []) hL1 (fun r_ => r = r_) ?_ ?_ ?_
    · rintro ⟨⟩ rfl
      try dsimp only [Fin.on] at h
      refine .seq <| .reg0 rfl (.op 0 rfl (asV rfl) <| .nil0) ?_
      replace h := h.symm
      subst h
      refine .kf [(4, bo true)] rfl rfl ?_
      exact .ret rfl
    · rintro r_ rfl
      exact h
    · rintro x1 z1 h hn1 hx1 hr1
      dsimp only [slices_Equal_int.b1] at h
      refine .seq <| .reg0 rfl (.op 0 rfl (ltI rfl rfl) <| .nil0) <| .seq ?_
      by_cases c6 : x1 < (a0.length : Int)
      · rw [if_pos c6] at h
        refine .condT rfl (dt c6) <| .skip <| .seq <| .block <| .seq <| .reg0 rfl (.op 0 rfl (mvV rfl) <| .op 0 rfl (asV rfl) <| .nil0) <| .seq ?_
        obtain ⟨g16_2, h⟩ := h
        obtain ⟨g16_6, h⟩ := h
        refine .reg1 (e1 := listEnv [(0, .rows (a0.map (cInt .i64))), (1, .rows (a1.map (cInt .i64))), (12, i6 (a0.length : Int)), (13, i6 x1), (24, bo ((rdl a0 x1) != (rdl a1 x1)))]) (H1 := []) rfl ?_ ?_
        · exact .drawM [(8, 24, bo ((rdl a0 x1) != (rdl a1 x1))), (7, 23, i6 (rdl a1 x1)), (6, 22, .cptr ((cInt .i64) (rdl a1 x1)) 0), (5, 21, i6 x1), (4, 20, .rows (a1.map (cInt .i64))), (3, 19, i6 (rdl a0 x1)), (2, 18, .cptr ((cInt .i64) (rdl a0 x1)) 0), (1, 17, i6 x1), (0, 16, .rows (a0.map (cInt .i64)))] [] [[], [], [0, 1], [2, 0, 1], [], [], [4, 5], [6, 4, 5], [3, 2, 0, 1, 7, 6, 4, 5]] (by rfl) (by rfl) (by rfl) (by exact ⟨oP (fun _ => mvR rfl) rfl, oP (fun _ => mvV rfl) rfl, oP (fun _ => ixR (l := a0) (lit := (cInt .i64)) sl23 rfl rfl (fun _ => rfl) g16_2.1 g16_2.2) rfl, oP (fun _ => ldC rfl sz3 ag3 rfl) rfl, oP (fun _ => mvR rfl) rfl, oP (fun _ => mvV rfl) rfl, oP (fun _ => ixR (l := a1) (lit := (cInt .i64)) sl23 rfl rfl (fun _ => rfl) g16_6.1 g16_6.2) rfl, oP (fun _ => ldC rfl sz3 ag3 rfl) rfl, oP (fun _ => neI rfl rfl) rfl, trivial⟩) _ (by exact ⟨.free rfl rfl, .free rfl rfl, .free rfl rfl, .free rfl rfl, .free rfl rfl, trivial⟩) (by rfl)
        by_cases c7 : (rdl a0 x1) = (rdl a1 x1)
        · rw [if_pos c7] at h
          refine .condF rfl (nf c7) <| .skip <| .inBlock <| .reg0 rfl (.op 0 rfl (addI rfl rfl) <| .op 0 rfl (mvV rfl) <| .nil0) <| .kf [(0, .rows (a0.map (cInt .i64))), (1, .rows (a1.map (cInt .i64))), (12, i6 (a0.length : Int)), (13, i6 (IntKind.i64.wrap (x1 + 1)))] rfl rfl ?_
          exact hn1 _ h
        · rw [if_neg c7] at h
          refine .condT rfl (nt c7) <| .seq <| .reg0 rfl (.op 0 rfl (asV rfl) <| .nil0) ?_
          have q3 := hr1 _ h
          replace q3 := q3.symm
          subst q3
          refine .kf [(4, bo false)] rfl rfl ?_
          exact .ret rfl
      · rw [if_neg c6] at h
        refine .condF rfl (df c6) <| .exit rfl <| .keepL [] [] [] (by decide) (by decide) trivial trivial ?_
        exact hx1 _ h
  · rw [if_neg c1] at h
    refine .condT rfl (nt c1) <| .seq <| .reg0 rfl (.op 0 rfl (asV rfl) <| .nil0) ?_
    replace h := h.symm
    subst h
    refine .kf [(4, bo false)] rfl rfl ?_
    exact .ret rfl
def frames_Same.f (a0 : TState) (a1 : TState) (r : Bool) : Prop :=
  ∃ t2_17 : Bool, ((a0.Node = a1.Node) → (a0.Marks = a1.Marks) → slices_Equal_int64.f a0.Env a1.Env t2_17) ∧ ∃ t2_24 : Bool, ((a0.Node = a1.Node) → (a0.Marks = a1.Marks) → (t2_17 = true) → slices_Equal_int.f a0.Stack a1.Stack t2_24) ∧ r = ((a0.Node == a1.Node) && ((a0.Marks == a1.Marks) && (t2_17 && t2_24)))
theorem frames_Same.D {a0 a1 r} (h : frames_Same.f a0 a1 r) : D Tryz.prog X (.callH 18 [.agg (TState.lit a0), .agg (TState.lit a1)] [] (.val (.bool r)) []) := by
  unfold frames_Same.f at h
  refine .enter 31 0 fn18 rfl rfl rfl <| .seq <| .room 0 <| .room 0 <| .reg0 rfl (.op 0 rfl (bxP (s := 4) (cs := (TState.lit a0)) rfl ⟨rfl, by decide, rfl⟩ rfl) <| .op 1 rfl (bxP (s := 4) (cs := (TState.lit a1)) rfl ⟨rfl, by decide, rfl⟩ rfl) <| .op 0 rfl (asV rfl) <| .nil0) <| .seq ?_
  obtain ⟨t2_17, g2_17, h⟩ := h
  obtain ⟨t2_24, g2_24, h⟩ := h
  refine .reg0 (e1 := listEnv [(4, bo ((a0.Node == a1.Node) && ((a0.Marks == a1.Marks) && (t2_17 && t2_24))))]) (H1 := [⟨4, [(TState.lit a0)], 0, none⟩, ⟨4, [(TState.lit a1)], 0, none⟩]) rfl ?_ ?_
  · refine .o (faP fa33_0 rfl) <| .o (ldP rfl sz3 ag3 rfl) <| .o (faP fa33_0 rfl) <| .o (ldP rfl sz3 ag3 rfl) <| .o (eqI rfl rfl) <| .m rfl <| ?_
    by_cases c1 : a0.Node = a1.Node
    · refine .g rfl (bt c1) (faP fa33_2 rfl) <| .g rfl (bt c1) (ldP rfl sz31 ag31 rfl) <| .g rfl (bt c1) (faP fa33_2 rfl) <| .g rfl (bt c1) (ldP rfl sz31 ag31 rfl) <| .g rfl (bt c1) (eqI rfl rfl) <| .o (pkTV rfl (bt c1) rfl) <| .m rfl <| ?_
      by_cases c2 : a0.Marks = a1.Marks
      · refine .g rfl (bt c2) (faP fa33_1 rfl) <| .g rfl (bt c2) (ldP rfl sz30 ag30 rfl) <| .g rfl (bt c2) (faP fa33_1 rfl) <| .g rfl (bt c2) (ldP rfl sz30 ag30 rfl) <| .callI (gT rfl rfl rfl (bt c2)) (callee_of rfl go31 rfl) (.pure rfl rfl (slices_Equal_int64.D (g2_17 c1 c2))) <| .o (pkTV rfl (bt c2) rfl) <| .m rfl <| ?_
        by_cases c3 : t2_17 = true
        · exact (.g rfl c3 (faP fa33_3 rfl) <| .g rfl c3 (ldP rfl sz23 ag23 rfl) <| .g rfl c3 (faP fa33_3 rfl) <| .g rfl c3 (ldP rfl sz23 ag23 rfl) <| .callI (gT rfl rfl rfl c3) (callee_of rfl go32 rfl) (.pure rfl rfl (slices_Equal_int.D (g2_24 c1 c2 c3))) <| .o (pkTV rfl c3 rfl) <| .a rfl <| .nilL _ ⟨cB rfl (mAndT (bt c1) (mAndT (bt c2) (mAndT c3 rfl))), trivial⟩)
        · exact (.n rfl (nb c3) <| .n rfl (nb c3) <| .n rfl (nb c3) <| .n rfl (nb c3) <| .n rfl (nb c3) <| .o (pkFV rfl (nb c3) rfl) <| .a rfl <| .nilL _ ⟨cB rfl (mAndT (bt c1) (mAndT (bt c2) (mAndF (nb c3)))), trivial⟩)
      · exact (.n rfl (bn c2) <| .n rfl (bn c2) <| .n rfl (bn c2) <| .n rfl (bn c2) <| .n rfl (bn c2) <| .o (pkFV rfl (bn c2) rfl) <| .m rfl <| .n rfl rfl <| .n rfl rfl <| .n rfl rfl <| .n rfl rfl <| .n rfl rfl <| .o (pkFV rfl rfl rfl) <| .a rfl <| .nilL _ ⟨cB rfl (mAndT (bt c1) (mAndF (bn c2))), trivial⟩)
    · exact (.n rfl (bn c1) <| .n rfl (bn c1) <| .n rfl (bn c1) <| .n rfl (bn c1) <| .n rfl (bn c1) <| .o (pkFV rfl (bn c1) rfl) <| .m rfl <| .n rfl rfl <| .n rfl rfl <| .n rfl rfl <| .n rfl rfl <| .n rfl rfl <| .o (pkFV rfl rfl rfl) <| .m rfl <| .n rfl rfl <| .n rfl rfl <| .n rfl rfl <| .n rfl rfl <| .n rfl rfl <| .o (pkFV rfl rfl rfl) <| .a rfl <| .nilL _ ⟨cB rfl (mAndF (bn c1)), trivial⟩)
  replace h := h.symm
  subst h
  refine .kf [(4, bo ((a0.Node == a1.Node) && ((a0.Marks == a1.Marks) && (t2_17 && t2_24))))] rfl rfl ?_
  exact .ret rfl
def l22_FramesStates.f (a0 : TGraph) (a1 : TState) (a2 : TState) (r : Bool) : Prop :=
  ∃ t2_0 : Bool, (l22_awake.f t2_0) ∧ if t2_0 = true then (∃ t3_2 : Bool, (l22_small.f a0 a1 t3_2) ∧ if t3_2 = true then (∃ t4_1 : TState × Int, (frames_Start.f a0 t4_1) ∧ ∃ t5_1 : TState × Int, (r22_Start.f a0 t5_1) ∧ ∃ t6_2 : (List Int) × Bool × Int, (frames_Moves.f a0 a1 t6_2) ∧ ∃ t7_2 : (List Int) × Bool × Int, (r22_Moves.f a0 a1 t7_2) ∧ ∃ t8_2 : (List Int) × Int, (frames_Leaks.f a0 a1 t8_2) ∧ ∃ t9_2 : (List Int) × Int, (r22_Leaks.f a0 a1 t9_2) ∧ ∃ t10_2 : Bool, (r22_Same.f t4_1.1 t5_1.1 t10_2) ∧ ∃ t10_12 : Bool, ((t10_2 = true) → (t4_1.2 = t5_1.2) → l22_numbers.f t6_2.1 t7_2.1 t10_12) ∧ ∃ t10_28 : Bool, ((t10_2 = true) → (t4_1.2 = t5_1.2) → (t10_12 = true) → (t6_2.2.1 = t7_2.2.1) → (t6_2.2.2 = t7_2.2.2) → l22_numbers.f t8_2.1 t9_2.1 t10_28) ∧ if ((!t10_2) || ((!(t4_1.2 == t5_1.2)) || ((!t10_12) || ((!(t6_2.2.1 == t7_2.2.1)) || ((!(t6_2.2.2 == t7_2.2.2)) || ((!t10_28) || (t8_2.2 != t9_2.2))))))) = true then (r = false) else (∃ t12_2 : Int, (frames_Check.f a0 a1 t12_2) ∧ ∃ t12_5 : Int, (r22_Check.f a0 a1 t12_5) ∧ ∃ t12_10 : Bool, ((t12_2 = t12_5) → frames_Same.f a1 a2 t12_10) ∧ ∃ t12_13 : Bool, ((t12_2 = t12_5) → r22_Same.f a1 a2 t12_13) ∧ ∃ t12_19 : Bool, ((t12_2 = t12_5) → (t12_10 = t12_13) → frames_Same.f a1 a1 t12_19) ∧ r = ((t12_2 == t12_5) && ((t12_10 == t12_13) && t12_19)))) else (r = true)) else (r = false)
abbrev GG_A1 : List (List Nat) := [[], [], [0, 1], [], [], [3, 4, 2, 0, 1], [2, 0, 1, 5, 3, 4], [6, 2, 0, 1, 5, 3, 4], [7, 6, 2, 0, 1, 5, 3, 4], [7, 6, 2, 0, 1, 5, 3, 4], [8, 7, 6, 2, 0, 1, 5, 3, 4, 9], [7, 6, 2, 0, 1, 5, 3, 4], [7, 6, 2, 0, 1, 5, 3, 4], [11, 7, 6, 2, 0, 1, 5, 3, 4, 12, 10, 8, 9], [10, 8, 7, 6, 2, 0, 1, 5, 3, 4, 9, 13, 11, 12], [7, 6, 2, 0, 1, 5, 3, 4, 14, 10, 8, 9, 13, 11, 12], [15, 7, 6, 2, 0, 1, 5, 3, 4, 14, 10, 8, 9, 13, 11, 12], [16, 15, 7, 6, 2, 0, 1, 5, 3, 4, 14, 10, 8, 9, 13, 11, 12], [16, 15, 7, 6, 2, 0, 1, 5, 3, 4, 14, 10, 8, 9, 13, 11, 12], [17, 16, 15, 7, 6, 2, 0, 1, 5, 3, 4, 14, 10, 8, 9, 13, 11, 12, 18], [16, 15, 7, 6, 2, 0, 1, 5, 3, 4, 14, 10, 8, 9, 13, 11, 12, 19, 17, 18], [20, 16, 15, 7, 6, 2, 0, 1, 5, 3, 4, 14, 10, 8, 9, 13, 11, 12, 19, 17, 18]]
theorem l22_FramesStates.D {a0 a1 a2 r} (h : l22_FramesStates.f a0 a1 a2 r) : D Tryz.prog X (.callH 3 [.agg (TGraph.lit a0), .agg (TState.lit a1), .agg (TState.lit a2)] [] (.val (.bool r)) []) := by
  unfold l22_FramesStates.f at h
  refine .enter 120 0 fn3 rfl rfl rfl <| .seq <| .room 0 <| .room 0 <| .room 0 <| .reg0 rfl (.op 0 rfl (bxP (s := 10) (cs := (TGraph.lit a0)) rfl ⟨rfl, by decide, rfl⟩ rfl) <| .op 1 rfl (bxP (s := 4) (cs := (TState.lit a1)) rfl ⟨rfl, by decide, rfl⟩ rfl) <| .op 2 rfl (bxP (s := 4) (cs := (TState.lit a2)) rfl ⟨rfl, by decide, rfl⟩ rfl) <| .op 0 rfl (asV rfl) <| .nil0) <| .seq <| .seq ?_
  obtain ⟨t2_0, g2_0, h⟩ := h
  refine .reg0 rfl (.c rfl go6 rfl rfl rfl (l22_awake.D g2_0) <| .o (notB rfl) <| .nil0) ?_
  by_cases c1 : t2_0 = true
  · rw [if_pos c1] at h
    refine .condF rfl (bnotF c1) <| .skip <| .seq <| .seq ?_
    obtain ⟨t3_2, g3_2, h⟩ := h
    refine .reg0 rfl (.o (ldG rfl sz29 ag29 rfl) <| .o (ldG rfl sz33 ag33 rfl) <| .c rfl go7 rfl rfl rfl (l22_small.D g3_2) <| .o (notB rfl) <| .nil0) ?_
    by_cases c2 : t3_2 = true
    · rw [if_pos c2] at h
      refine .condF rfl (bnotF c2) <| .skip <| .seq ?_
      obtain ⟨t4_1, g4_1, h⟩ := h
      refine .room 0 <| .reg0 rfl (.op 0 rfl (ldG rfl sz29 ag29 rfl) <| .callI rfl (callee_of rfl go8 rfl) (.pure rfl rfl (frames_Start.D g4_1)) <| .op 0 rfl (mvT rfl) <| .op 0 rfl (exT rfl rfl) <| .op 0 rfl (exT rfl rfl) <| .op 3 rfl (alP (s := 4) ze33 ⟨rfl, by decide, rfl⟩ rfl) <| .op 0 rfl (stB (cs0 := [i6 0, nul, u6 0, nul]) (cs := (TState.lit t4_1.1)) (cs1 := (TState.lit t4_1.1)) rfl rfl sz33 rfl ⟨Nat.le_of_ble_eq_true rfl, rfl⟩ rfl) <| .op 0 rfl (asV rfl) <| .nil0) ?_
      refine .seq ?_
      obtain ⟨t5_1, g5_1, h⟩ := h
      refine .room 0 <| .reg0 rfl (.op 0 rfl (ldG rfl sz29 ag29 rfl) <| .callI rfl (callee_of rfl go9 rfl) (.pure rfl rfl (r22_Start.D g5_1)) <| .op 0 rfl (mvT rfl) <| .op 0 rfl (exT rfl rfl) <| .op 0 rfl (exT rfl rfl) <| .op 4 rfl (alP (s := 4) ze33 ⟨rfl, by decide, rfl⟩ rfl) <| .op 0 rfl (stB (cs0 := [i6 0, nul, u6 0, nul]) (cs := (TState.lit t5_1.1)) (cs1 := (TState.lit t5_1.1)) rfl rfl sz33 rfl ⟨Nat.le_of_ble_eq_true rfl, rfl⟩ rfl) <| .op 0 rfl (asV rfl) <| .nil0) ?_
      refine .seq ?_
      obtain ⟨t6_2, g6_2, h⟩ := h
      refine .reg0 (e1 := listEnv [(3, .ptr 0 1 10 0 0), (4, .ptr 1 1 4 0 0), (5, .ptr 2 1 4 0 0), (7, .ptr 3 1 4 0 0), (8, i6 t4_1.2), (9, .ptr 4 1 4 0 0), (10, i6 t5_1.2), (11, .rows (t6_2.1.map (cInt .i64))), (12, bo t6_2.2.1), (13, i6 t6_2.2.2)]) (H1 := [⟨10, [(TGraph.lit a0)], 0, none⟩, ⟨4, [(TState.lit a1)], 0, none⟩, ⟨4, [(TState.lit a2)], 0, none⟩, ⟨4, [(TState.lit t4_1.1)], 0, none⟩, ⟨4, [(TState.lit t5_1.1)], 0, none⟩]) rfl (.op 0 rfl (ldG rfl sz29 ag29 rfl) <| .op 0 rfl (ldG rfl sz33 ag33 rfl) <| .callI rfl (callee_of rfl go10 rfl) (.pure rfl rfl (frames_Moves.D g6_2)) <| .op 0 rfl (mvT rfl) <| .op 0 rfl (exT rfl rfl) <| .op 0 rfl (exT rfl rfl) <| .op 0 rfl (exT rfl rfl) <| .op 0 rfl (asR rfl) <| .op 0 rfl (asV rfl) <| .op 0 rfl (asV rfl) <| .nilL _ ⟨.ptr rfl, .ptr rfl, .ptr rfl, .ptr rfl, .free rfl rfl, .ptr rfl, .free rfl rfl, .free rfl rfl, .free rfl rfl, .free rfl rfl, trivial⟩) ?_
      refine .seq ?_
      obtain ⟨t7_2, g7_2, h⟩ := h
      refine .reg0 rfl (.o (ldG rfl sz29 ag29 rfl) <| .o (ldG rfl sz33 ag33 rfl) <| .c rfl go11 rfl rfl rfl (r22_Moves.D g7_2) <| .o (mvT rfl) <| .o (exT rfl rfl) <| .o (exT rfl rfl) <| .o (exT rfl rfl) <| .o (asR rfl) <| .a rfl <| .a rfl <| .nil0) <| .seq ?_
      obtain ⟨t8_2, g8_2, h⟩ := h
      refine .reg0 rfl (.o (ldG rfl sz29 ag29 rfl) <| .o (ldG rfl sz33 ag33 rfl) <| .c rfl go12 rfl rfl rfl (frames_Leaks.D g8_2) <| .o (mvT rfl) <| .o (exT rfl rfl) <| .o (exT rfl rfl) <| .o (asR rfl) <| .a rfl <| .nil0) <| .seq ?_
      obtain ⟨t9_2, g9_2, h⟩ := h
      refine .reg0 (e1 := listEnv [(3, .ptr 0 1 10 0 0), (4, .ptr 1 1 4 0 0), (5, .ptr 2 1 4 0 0), (7, .ptr 3 1 4 0 0), (8, i6 t4_1.2), (9, .ptr 4 1 4 0 0), (10, i6 t5_1.2), (11, .rows (t6_2.1.map (cInt .i64))), (12, bo t6_2.2.1), (13, i6 t6_2.2.2), (14, .rows (t7_2.1.map (cInt .i64))), (15, bo t7_2.2.1), (16, i6 t7_2.2.2), (17, .rows (t8_2.1.map (cInt .i64))), (18, i6 t8_2.2), (19, .rows (t9_2.1.map (cInt .i64))), (20, i6 t9_2.2)]) (H1 := [⟨10, [(TGraph.lit a0)], 0, none⟩, ⟨4, [(TState.lit a1)], 0, none⟩, ⟨4, [(TState.lit a2)], 0, none⟩, ⟨4, [(TState.lit t4_1.1)], 0, none⟩, ⟨4, [(TState.lit t5_1.1)], 0, none⟩]) rfl (.op 0 rfl (ldG rfl sz29 ag29 rfl) <| .op 0 rfl (ldG rfl sz33 ag33 rfl) <| .callI rfl (callee_of rfl go13 rfl) (.pure rfl rfl (r22_Leaks.D g9_2)) <| .op 0 rfl (mvT rfl) <| .op 0 rfl (exT rfl rfl) <| .op 0 rfl (exT rfl rfl) <| .op 0 rfl (asR rfl) <| .op 0 rfl (asV rfl) <| .nilL _ ⟨.ptr rfl, .ptr rfl, .ptr rfl, .ptr rfl, .free rfl rfl, .ptr rfl, .free rfl rfl, .free rfl rfl, .free rfl rfl, .free rfl rfl, .free rfl rfl, .free rfl rfl, .free rfl rfl, .free rfl rfl, .free rfl rfl, .free rfl rfl, .free rfl rfl, trivial⟩) ?_
      refine .seq <| .seq ?_
      obtain ⟨t10_2, g10_2, h⟩ := h
      obtain ⟨t10_12, g10_12, h⟩ := h
      obtain ⟨t10_28, g10_28, h⟩ := h
      refine .reg0 (e1 := listEnv [(3, .ptr 0 1 10 0 0), (4, .ptr 1 1 4 0 0), (5, .ptr 2 1 4 0 0), (98, bo ((!t10_2) || ((!(t4_1.2 == t5_1.2)) || ((!t10_12) || ((!(t6_2.2.1 == t7_2.2.1)) || ((!(t6_2.2.2 == t7_2.2.2)) || ((!t10_28) || (t8_2.2 != t9_2.2))))))))]) (H1 := [⟨10, [(TGraph.lit a0)], 0, none⟩, ⟨4, [(TState.lit a1)], 0, none⟩, ⟨4, [(TState.lit a2)], 0, none⟩, ⟨4, [(TState.lit t4_1.1)], 0, none⟩, ⟨4, [(TState.lit t5_1.1)], 0, none⟩]) rfl ?_ ?_
      · refine .o (ldG rfl sz33 ag33 rfl) <| .o (ldG rfl sz33 ag33 rfl) <| .c rfl go14 rfl rfl rfl (r22_Same.D g10_2) <| .o (notB rfl) <| .m rfl <| ?_
        by_cases c3 : t10_2 = true
        · refine .g rfl (bnotF c3) (mvV rfl) <| .g rfl (bnotF c3) (mvV rfl) <| .g rfl (bnotF c3) (neI rfl rfl) <| .o (pkFV rfl (bnotF c3) rfl) <| .m rfl <| ?_
          by_cases c4 : t4_1.2 = t5_1.2
          · refine .g rfl (nf c4) (mvR rfl) <| .g rfl (nf c4) (mvR rfl) <| .callI (gT rfl rfl rfl (nf c4)) (callee_of rfl go15 rfl) (.pure rfl rfl (l22_numbers.D (g10_12 c3 c4))) <| .g rfl (nf c4) (notB rfl) <| .o (pkFV rfl (nf c4) rfl) <| .m rfl <| ?_
            by_cases c5 : t10_12 = true
            · refine .g rfl (bnotF c5) (mvV rfl) <| .g rfl (bnotF c5) (mvV rfl) <| .g rfl (bnotF c5) (neB un4 rfl rfl) <| .o (pkFV rfl (bnotF c5) rfl) <| .m rfl <| ?_
              by_cases c6 : t6_2.2.1 = t7_2.2.1
              · refine .g rfl (nf c6) (mvV rfl) <| .g rfl (nf c6) (mvV rfl) <| .g rfl (nf c6) (neI rfl rfl) <| .o (pkFV rfl (nf c6) rfl) <| .m rfl <| ?_
                by_cases c7 : t6_2.2.2 = t7_2.2.2
                · refine .g rfl (nf c7) (mvR rfl) <| .g rfl (nf c7) (mvR rfl) <| .callI (gT rfl rfl rfl (nf c7)) (callee_of rfl go15 rfl) (.pure rfl rfl (l22_numbers.D (g10_28 c3 c4 c5 c6 c7))) <| .g rfl (nf c7) (notB rfl) <| .o (pkFV rfl (nf c7) rfl) <| .m rfl <| ?_
                  by_cases c8 : t10_28 = true
                  · exact (.g rfl (bnotF c8) (mvV rfl) <| .g rfl (bnotF c8) (mvV rfl) <| .g rfl (bnotF c8) (neI rfl rfl) <| .o (pkFV rfl (bnotF c8) rfl) <| .nilL _ ⟨.ptr rfl, .ptr rfl, .ptr rfl, cB rfl (mOrF (bnotF c3) (mOrF (bnotF (bt c4)) (mOrF (bnotF c5) (mOrF (bnotF (bt c6)) (mOrF (bnotF (bt c7)) (mOrF (bnotF c8) rfl)))))), trivial⟩)
                  · exact (.n rfl (bnotT (nb c8)) <| .n rfl (bnotT (nb c8)) <| .n rfl (bnotT (nb c8)) <| .o (pkTV rfl (bnotT (nb c8)) rfl) <| .nilL _ ⟨.ptr rfl, .ptr rfl, .ptr rfl, cB rfl (mOrF (bnotF c3) (mOrF (bnotF (bt c4)) (mOrF (bnotF c5) (mOrF (bnotF (bt c6)) (mOrF (bnotF (bt c7)) (mOrT (bnotT (nb c8)))))))), trivial⟩)
                · exact (.n rfl (nt c7) <| .n rfl (nt c7) <| .n rfl (nt c7) <| .n rfl (nt c7) <| .o (pkTV rfl (nt c7) rfl) <| .m rfl <| .n rfl rfl <| .n rfl rfl <| .n rfl rfl <| .o (pkTV rfl rfl rfl) <| .nilL _ ⟨.ptr rfl, .ptr rfl, .ptr rfl, cB rfl (mOrF (bnotF c3) (mOrF (bnotF (bt c4)) (mOrF (bnotF c5) (mOrF (bnotF (bt c6)) (mOrT (bnotT (bn c7))))))), trivial⟩)
              · exact (.n rfl (nt c6) <| .n rfl (nt c6) <| .n rfl (nt c6) <| .o (pkTV rfl (nt c6) rfl) <| .m rfl <| .n rfl rfl <| .n rfl rfl <| .n rfl rfl <| .n rfl rfl <| .o (pkTV rfl rfl rfl) <| .m rfl <| .n rfl rfl <| .n rfl rfl <| .n rfl rfl <| .o (pkTV rfl rfl rfl) <| .nilL _ ⟨.ptr rfl, .ptr rfl, .ptr rfl, cB rfl (mOrF (bnotF c3) (mOrF (bnotF (bt c4)) (mOrF (bnotF c5) (mOrT (bnotT (bn c6)))))), trivial⟩)
            · exact (.n rfl (bnotT (nb c5)) <| .n rfl (bnotT (nb c5)) <| .n rfl (bnotT (nb c5)) <| .o (pkTV rfl (bnotT (nb c5)) rfl) <| .m rfl <| .n rfl rfl <| .n rfl rfl <| .n rfl rfl <| .o (pkTV rfl rfl rfl) <| .m rfl <| .n rfl rfl <| .n rfl rfl <| .n rfl rfl <| .n rfl rfl <| .o (pkTV rfl rfl rfl) <| .m rfl <| .n rfl rfl <| .n rfl rfl <| .n rfl rfl <| .o (pkTV rfl rfl rfl) <| .nilL _ ⟨.ptr rfl, .ptr rfl, .ptr rfl, cB rfl (mOrF (bnotF c3) (mOrF (bnotF (bt c4)) (mOrT (bnotT (nb c5))))), trivial⟩)
          · exact (.n rfl (nt c4) <| .n rfl (nt c4) <| .n rfl (nt c4) <| .n rfl (nt c4) <| .o (pkTV rfl (nt c4) rfl) <| .m rfl <| .n rfl rfl <| .n rfl rfl <| .n rfl rfl <| .o (pkTV rfl rfl rfl) <| .m rfl <| .n rfl rfl <| .n rfl rfl <| .n rfl rfl <| .o (pkTV rfl rfl rfl) <| .m rfl <| .n rfl rfl <| .n rfl rfl <| .n rfl rfl <| .n rfl rfl <| .o (pkTV rfl rfl rfl) <| .m rfl <| .n rfl rfl <| .n rfl rfl <| .n rfl rfl <| .o (pkTV rfl rfl rfl) <| .nilL _ ⟨.ptr rfl, .ptr rfl, .ptr rfl, cB rfl (mOrF (bnotF c3) (mOrT (bnotT (bn c4)))), trivial⟩)
        · exact (.n rfl (bnotT (nb c3)) <| .n rfl (bnotT (nb c3)) <| .n rfl (bnotT (nb c3)) <| .o (pkTV rfl (bnotT (nb c3)) rfl) <| .m rfl <| .n rfl rfl <| .n rfl rfl <| .n rfl rfl <| .n rfl rfl <| .o (pkTV rfl rfl rfl) <| .m rfl <| .n rfl rfl <| .n rfl rfl <| .n rfl rfl <| .o (pkTV rfl rfl rfl) <| .m rfl <| .n rfl rfl <| .n rfl rfl <| .n rfl rfl <| .o (pkTV rfl rfl rfl) <| .m rfl <| .n rfl rfl <| .n rfl rfl <| .n rfl rfl <| .n rfl rfl <| .o (pkTV rfl rfl rfl) <| .m rfl <| .n rfl rfl <| .n rfl rfl <| .n rfl rfl <| .o (pkTV rfl rfl rfl) <| .nilL _ ⟨.ptr rfl, .ptr rfl, .ptr rfl, cB rfl (mOrT (bnotT (nb c3))), trivial⟩)
      by_cases c9 : ((!t10_2) || ((!(t4_1.2 == t5_1.2)) || ((!t10_12) || ((!(t6_2.2.1 == t7_2.2.1)) || ((!(t6_2.2.2 == t7_2.2.2)) || ((!t10_28) || (t8_2.2 != t9_2.2))))))) = true
      · rw [if_pos c9] at h
        refine .condT rfl c9 <| .seq <| .reg0 rfl (.op 0 rfl (asV rfl) <| .nil0) ?_
        replace h := h.symm
        subst h
        refine .kf [(6, bo false)] rfl rfl ?_
        exact .ret rfl
      · rw [if_neg c9] at h
        refine .condF rfl (nb c9) <| .skip <| .seq ?_
        obtain ⟨t12_2, g12_2, h⟩ := h
        obtain ⟨t12_5, g12_5, h⟩ := h
        obtain ⟨t12_10, g12_10, h⟩ := h
        obtain ⟨t12_13, g12_13, h⟩ := h
        obtain ⟨t12_19, g12_19, h⟩ := h
        refine .reg1 (e1 := listEnv [(6, bo ((t12_2 == t12_5) && ((t12_10 == t12_13) && t12_19)))]) (H1 := [⟨10, [(TGraph.lit a0)], 0, none⟩, ⟨4, [(TState.lit a1)], 0, none⟩, ⟨4, [(TState.lit a2)], 0, none⟩, ⟨4, [(TState.lit t4_1.1)], 0, none⟩, ⟨4, [(TState.lit t5_1.1)], 0, none⟩]) rfl ?_ ?_
        · by_cases c10 : t12_2 = t12_5
          · by_cases c11 : t12_10 = t12_13
            · exact .drawM [(21, 6, bo t12_19), (20, 119, bo t12_19), (19, 118, bo t12_19), (18, 117, .agg (TState.lit a1)), (17, 116, .agg (TState.lit a1)), (16, 115, bo (t12_10 == t12_13)), (15, 114, bo (t12_10 == t12_13)), (14, 113, bo (t12_10 == t12_13)), (13, 112, bo t12_13), (12, 111, .agg (TState.lit a2)), (11, 110, .agg (TState.lit a1)), (10, 109, bo t12_10), (9, 108, .agg (TState.lit a2)), (8, 107, .agg (TState.lit a1)), (7, 106, bo (t12_2 == t12_5)), (6, 105, bo (t12_2 == t12_5)), (5, 104, i6 t12_5), (4, 103, .agg (TState.lit a1)), (3, 102, .agg (TGraph.lit a0)), (2, 101, i6 t12_2), (1, 100, .agg (TState.lit a1)), (0, 99, .agg (TGraph.lit a0))] [] GG_A1 (by rfl) (by rfl) (by rfl) (by exact ⟨oP (fun _ => ldG rfl sz29 ag29 rfl) rfl, oP (fun _ => ldG rfl sz33 ag33 rfl) rfl, fun S hS hD hn => .oneI hS hD hn rfl rfl (callee_of rfl go16 rfl) (.pure rfl rfl (frames_Check.D g12_2)) rfl rfl rfl, oP (fun _ => ldG rfl sz29 ag29 rfl) rfl, oP (fun _ => ldG rfl sz33 ag33 rfl) rfl, fun S hS hD hn => .oneI hS hD hn rfl rfl (callee_of rfl go17 rfl) (.pure rfl rfl (r22_Check.D g12_5)) rfl rfl rfl, oP (fun _ => eqI rfl rfl) rfl, oP (fun _ => mvV rfl) rfl, oG rfl (fun _ => rfl) (bt c10) (fun _ => ldG rfl sz33 ag33 rfl) rfl, oG rfl (fun _ => rfl) (bt c10) (fun _ => ldG rfl sz33 ag33 rfl) rfl, fun S hS hD hn => .oneI hS hD hn (gT rfl rfl rfl (bt c10)) rfl (callee_of rfl go18 rfl) (.pure rfl rfl (frames_Same.D (g12_10 c10))) rfl rfl rfl, oG rfl (fun _ => rfl) (bt c10) (fun _ => ldG rfl sz33 ag33 rfl) rfl, oG rfl (fun _ => rfl) (bt c10) (fun _ => ldG rfl sz33 ag33 rfl) rfl, fun S hS hD hn => .oneI hS hD hn (gT rfl rfl rfl (bt c10)) rfl (callee_of rfl go14 rfl) (.pure rfl rfl (r22_Same.D (g12_13 c10))) rfl rfl rfl, oG rfl (fun _ => rfl) (bt c10) (fun _ => eqB un4 rfl rfl) rfl, oP (fun _ => pkTV rfl (bt c10) rfl) rfl, oP (fun _ => mvV rfl) rfl, oG rfl (fun _ => rfl) (bt c11) (fun _ => ldG rfl sz33 ag33 rfl) rfl, oG rfl (fun _ => rfl) (bt c11) (fun _ => ldG rfl sz33 ag33 rfl) rfl, fun S hS hD hn => .oneI hS hD hn (gT rfl rfl rfl (bt c11)) rfl (callee_of rfl go18 rfl) (.pure rfl rfl (frames_Same.D (g12_19 c10 c11))) rfl rfl rfl, oP (fun _ => pkTV rfl (bt c11) rfl) rfl, oP (fun _ => asV rfl) rfl, trivial⟩) _ (by exact ⟨cB rfl (mAndT (bt c10) (mAndT (bt c11) rfl)), trivial⟩) (by rfl)
            · exact .drawM [(21, 6, bo false), (20, 119, bo false), (19, 118, und), (18, 117, und), (17, 116, und), (16, 115, bo (t12_10 == t12_13)), (15, 114, bo (t12_10 == t12_13)), (14, 113, bo (t12_10 == t12_13)), (13, 112, bo t12_13), (12, 111, .agg (TState.lit a2)), (11, 110, .agg (TState.lit a1)), (10, 109, bo t12_10), (9, 108, .agg (TState.lit a2)), (8, 107, .agg (TState.lit a1)), (7, 106, bo (t12_2 == t12_5)), (6, 105, bo (t12_2 == t12_5)), (5, 104, i6 t12_5), (4, 103, .agg (TState.lit a1)), (3, 102, .agg (TGraph.lit a0)), (2, 101, i6 t12_2), (1, 100, .agg (TState.lit a1)), (0, 99, .agg (TGraph.lit a0))] [] GG_A1 (by rfl) (by rfl) (by rfl) (by exact ⟨oP (fun _ => ldG rfl sz29 ag29 rfl) rfl, oP (fun _ => ldG rfl sz33 ag33 rfl) rfl, fun S hS hD hn => .oneI hS hD hn rfl rfl (callee_of rfl go16 rfl) (.pure rfl rfl (frames_Check.D g12_2)) rfl rfl rfl, oP (fun _ => ldG rfl sz29 ag29 rfl) rfl, oP (fun _ => ldG rfl sz33 ag33 rfl) rfl, fun S hS hD hn => .oneI hS hD hn rfl rfl (callee_of rfl go17 rfl) (.pure rfl rfl (r22_Check.D g12_5)) rfl rfl rfl, oP (fun _ => eqI rfl rfl) rfl, oP (fun _ => mvV rfl) rfl, oG rfl (fun _ => rfl) (bt c10) (fun _ => ldG rfl sz33 ag33 rfl) rfl, oG rfl (fun _ => rfl) (bt c10) (fun _ => ldG rfl sz33 ag33 rfl) rfl, fun S hS hD hn => .oneI hS hD hn (gT rfl rfl rfl (bt c10)) rfl (callee_of rfl go18 rfl) (.pure rfl rfl (frames_Same.D (g12_10 c10))) rfl rfl rfl, oG rfl (fun _ => rfl) (bt c10) (fun _ => ldG rfl sz33 ag33 rfl) rfl, oG rfl (fun _ => rfl) (bt c10) (fun _ => ldG rfl sz33 ag33 rfl) rfl, fun S hS hD hn => .oneI hS hD hn (gT rfl rfl rfl (bt c10)) rfl (callee_of rfl go14 rfl) (.pure rfl rfl (r22_Same.D (g12_13 c10))) rfl rfl rfl, oG rfl (fun _ => rfl) (bt c10) (fun _ => eqB un4 rfl rfl) rfl, oP (fun _ => pkTV rfl (bt c10) rfl) rfl, oP (fun _ => mvV rfl) rfl, oN rfl (fun _ => rfl) (bn c11) rfl, oN rfl (fun _ => rfl) (bn c11) rfl, oN rfl (fun _ => rfl) (bn c11) rfl, oP (fun _ => pkFV rfl (bn c11) rfl) rfl, oP (fun _ => asV rfl) rfl, trivial⟩) _ (by exact ⟨cB rfl (mAndT (bt c10) (mAndF (bn c11))), trivial⟩) (by rfl)
          · exact .drawM [(21, 6, bo false), (20, 119, bo false), (19, 118, und), (18, 117, und), (17, 116, und), (16, 115, bo false), (15, 114, bo false), (14, 113, und), (13, 112, und), (12, 111, und), (11, 110, und), (10, 109, und), (9, 108, und), (8, 107, und), (7, 106, bo (t12_2 == t12_5)), (6, 105, bo (t12_2 == t12_5)), (5, 104, i6 t12_5), (4, 103, .agg (TState.lit a1)), (3, 102, .agg (TGraph.lit a0)), (2, 101, i6 t12_2), (1, 100, .agg (TState.lit a1)), (0, 99, .agg (TGraph.lit a0))] [] GG_A1 (by rfl) (by rfl) (by rfl) (by exact ⟨oP (fun _ => ldG rfl sz29 ag29 rfl) rfl, oP (fun _ => ldG rfl sz33 ag33 rfl) rfl, fun S hS hD hn => .oneI hS hD hn rfl rfl (callee_of rfl go16 rfl) (.pure rfl rfl (frames_Check.D g12_2)) rfl rfl rfl, oP (fun _ => ldG rfl sz29 ag29 rfl) rfl, oP (fun _ => ldG rfl sz33 ag33 rfl) rfl, fun S hS hD hn => .oneI hS hD hn rfl rfl (callee_of rfl go17 rfl) (.pure rfl rfl (r22_Check.D g12_5)) rfl rfl rfl, oP (fun _ => eqI rfl rfl) rfl, oP (fun _ => mvV rfl) rfl, oN rfl (fun _ => rfl) (bn c10) rfl, oN rfl (fun _ => rfl) (bn c10) rfl, oN rfl (fun _ => rfl) (bn c10) rfl, oN rfl (fun _ => rfl) (bn c10) rfl, oN rfl (fun _ => rfl) (bn c10) rfl, oN rfl (fun _ => rfl) (bn c10) rfl, oN rfl (fun _ => rfl) (bn c10) rfl, oP (fun _ => pkFV rfl (bn c10) rfl) rfl, oP (fun _ => mvV rfl) rfl, oN rfl (fun _ => rfl) rfl rfl, oN rfl (fun _ => rfl) rfl rfl, oN rfl (fun _ => rfl) rfl rfl, oP (fun _ => pkFV rfl rfl rfl) rfl, oP (fun _ => asV rfl) rfl, trivial⟩) _ (by exact ⟨cB rfl (mAndF (bn c10)), trivial⟩) (by rfl)
        replace h := h.symm
        subst h
        refine .kf [(6, bo ((t12_2 == t12_5) && ((t12_10 == t12_13) && t12_19)))] rfl rfl ?_
        exact .ret rfl
    · rw [if_neg c2] at h
      refine .condT rfl (bnotT (nb c2)) <| .seq <| .reg0 rfl (.op 0 rfl (asV rfl) <| .nil0) ?_
      replace h := h.symm
      subst h
      refine .kf [(6, bo true)] rfl rfl ?_
      exact .ret rfl
  · rw [if_neg c1] at h
    refine .condT rfl (bnotT (nb c1)) <| .seq <| .reg0 rfl (.op 0 rfl (asV rfl) <| .nil0) ?_
    replace h := h.symm
    subst h
    refine .kf [(6, bo false)] rfl rfl ?_
    exact .ret rfl
end Go.RM.Tryz
