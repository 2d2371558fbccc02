/- GJ, for the statement FramesReached: what it needs, no more. -/
import Derived.Test.YtcogffeinodfaaaGreatDoorZFramesReachedGI
set_option linter.unusedVariables false
set_option maxRecDepth 8000
set_option maxHeartbeats 4000000
namespace Go.RM.Tryz
open Go.RM Go.Proofs
abbrev GJ_c0 : List PV := [i6 0, nul, u6 0, nul]
abbrev GJ_c1 : List PV := [i6 0, .rows (([] : List Int).map (cInt .i64)), u6 0, .rows (([] : List Int).map (cInt .i64))]
def frames_Run.b1 (a0 : TGraph) (a2 : List TMove) : (Int × (List Int) × Int × (List Int) × Int) → Rnd ((Int × (List Int) × Int × (List Int) × Int)) ((Int × (List Int) × Int × (List Int))) (TState × Int × Int) → Prop := fun (x1, x2, x3, x4, x5) z1 => if x5 < (a2.length : Int) then (((InR x5 a2.length)) ∧ ∃ t22_3 : TState × Int, (frames_do.f a0 (TState.mk x1 x2 x3 x4) (rdl a2 x5) t22_3) ∧ if t22_3.2 = 0 then (z1 = .next (t22_3.1.Node, t22_3.1.Env, t22_3.1.Marks, t22_3.1.Stack, (IntKind.i64.wrap (x5 + 1)))) else (z1 = .ret ((TState.mk 0 [] 0 []), x5, t22_3.2))) else (z1 = .exit (x1, x2, x3, x4))
def frames_Run.f (a0 : TGraph) (a1 : TState) (a2 : List TMove) (r : TState × Int × Int) : Prop :=
  ∃ t2_2 : Int, (frames_Check.f a0 a1 t2_2) ∧ if t2_2 = 0 then (∃ t4_4 : (List Int), (slices_Clone_int64.f a1.Env t4_4) ∧ ∃ t4_9 : (List Int), (slices_Clone_int.f a1.Stack t4_9) ∧ ∃ o1 : Fin ((Int × (List Int) × Int × (List Int))) (TState × Int × Int), Loop (frames_Run.b1 a0 a2) (a1.Node, t4_4, a1.Marks, t4_9, 0) o1 ∧ o1.on (fun (x6, x7, x8, x9) => r = ((TState.mk x6 x7 x8 x9), 0, 0)) (fun r_ => r = r_)) else (r = ((TState.mk 0 [] 0 []), 0, t2_2))
theorem frames_Run.D {a0 a1 a2 r} (h : frames_Run.f a0 a1 a2 r) : D Tryz.prog X (.callH 22 [.agg (TGraph.lit a0), .agg (TState.lit a1), .rows (a2.map TMove.cells)] [] (.tuple [.agg (TState.lit r.1), .val (.int .i64 r.2.1), .val (.int .i64 r.2.2)]) []) := by
  unfold frames_Run.f at h
  refine .enter 54 0 fn22 q q q<|.seq<|.room 0<|.room 0<|.room 0<|.reg0 q (.o (bxP (s := 10) (cs := (TGraph.lit a0)) q ⟨q, by decide, q⟩ q)<|.op 1 q (bxP (s := 4) (cs := (TState.lit a1)) q ⟨q, by decide, q⟩ q)<|.op 2 q (alP (s := 4) ze33 ⟨q, by decide, q⟩ q)<|.o (asV q)<|.o (asV q)<|.nil0)<|.seq<|.seq ?_
  obtain ⟨t2_2, g2_2, h⟩ := h
  refine .reg0 q (.o (ldG q sz29 ag29 q)<|.o (ldG q sz33 ag33 q)<|.c q go16 q q q (frames_Check.D g2_2)<|.a q<|.nil0)<|.seq<|.reg0 q (.o (mvV q)<|.o (neI q q)<|.nil0) ?_
  by_cases c1 : t2_2 = 0
  · rw [if_pos c1] at h
    refine .condF q (nf c1)<|.skip<|.seq ?_
    obtain ⟨t4_4, g4_4, h⟩ := h
    obtain ⟨t4_9, g4_9, h⟩ := h
    refine .reg1 (e1 := listEnv [(2, .rows (a2.map TMove.cells)), (3, .ptr 0 1 10 0 0), (4, .ptr 1 1 4 0 0), (6, .ptr 2 1 4 0 0)]) (H1 := [⟨10, [(TGraph.lit a0)], 0, none⟩, ⟨4, [[i6 a1.Node, .rows (t4_4.map (cInt .i64)), u6 a1.Marks, .rows (t4_9.map (cInt .i64))]], 0, none⟩, ⟨4, [GJ_c0], 0, none⟩]) q ?_ ?_
    · exact .drawM [(10, 31, .agg [i6 a1.Node, .rows (t4_4.map (cInt .i64)), u6 a1.Marks, .rows (t4_9.map (cInt .i64))]), (9, 30, .rows (t4_9.map (cInt .i64))), (8, 29, .rows (a1.Stack.map (cInt .i64))), (7, 28, .ptr 1 1 4 0 3), (6, 27, u6 a1.Marks), (5, 26, .ptr 1 1 4 0 2), (4, 25, .rows (t4_4.map (cInt .i64))), (3, 24, .rows (a1.Env.map (cInt .i64))), (2, 23, .ptr 1 1 4 0 1), (1, 22, i6 a1.Node), (0, 21, .ptr 1 1 4 0 0)] [(11, 1, ⟨4, [[i6 a1.Node, .rows (t4_4.map (cInt .i64)), u6 a1.Marks, .rows (t4_9.map (cInt .i64))]], 0, none⟩)] [[], [0], [], [2], [3, 2], [], [5], [], [7], [8, 7, 4, 3, 2], [1, 0, 4, 3, 2, 6, 5, 9, 8, 7], [10, 1, 0, 4, 3, 2, 6, 5, 9, 8, 7]] (by rfl) (by rfl) (by rfl) (by exact ⟨oP (fun _ => faP fa33_0 q) q, oP (fun _ => ldP q sz3 ag3 q) q, oP (fun _ => faP fa33_1 q) q, oP (fun _ => ldP q sz30 ag30 q) q, fun S hS hD hn => .oneI hS hD hn q q (callee_of q go33 q) (.pure q q (slices_Clone_int64.D g4_4)) q q q, oP (fun _ => faP fa33_2 q) q, oP (fun _ => ldP q sz31 ag31 q) q, oP (fun _ => faP fa33_3 q) q, oP (fun _ => ldP q sz23 ag23 q) q, fun S hS hD hn => .oneI hS hD hn q q (callee_of q go34 q) (.pure q q (slices_Clone_int.D g4_9)) q q q, oP (fun _ => bldS (cs := [i6 a1.Node, .rows (t4_4.map (cInt .i64)), u6 a1.Marks, .rows (t4_9.map (cInt .i64))]) ze33 pl33 q q) q, fun S hS hD hn => .one0 0 q q (stB (cs0 := (TState.lit a1)) (cs := [i6 a1.Node, .rows (t4_4.map (cInt .i64)), u6 a1.Marks, .rows (t4_9.map (cInt .i64))]) (cs1 := [i6 a1.Node, .rows (t4_4.map (cInt .i64)), u6 a1.Marks, .rows (t4_9.map (cInt .i64))]) q q sz33 q ⟨Nat.le_of_ble_eq_true q, q⟩ q) (drawE_other _ _ _ _ q) q, trivial⟩) _ (by exact ⟨.free q q, .ptr q, .ptr q, .ptr q, trivial⟩) (by rfl)
    refine .seq<|.seq<|.reg0 q (.o (mvR q)<|.o (lnR (l := a2) sl52 q)<|.o (mvV q)<|.nil0)<|.block<|.keepL [0, 1, 2] [(3, .ptr 0 1 10 0 0), (4, .ptr 1 1 4 0 0), (6, .ptr 2 1 4 0 0), (32, .rows (a2.map TMove.cells)), (33, i6 (a2.length : Int)), (34, i6 0)] [⟨10, [(TGraph.lit a0)], 0, none⟩, ⟨4, [[i6 a1.Node, .rows (t4_4.map (cInt .i64)), u6 a1.Marks, .rows (t4_9.map (cInt .i64))]], 0, none⟩, ⟨4, [GJ_c0], 0, none⟩] (by decide) (by decide) ⟨.ptr q, .ptr q, .ptr q, .free q q, .free q q, .free q q, trivial⟩ ⟨⟨_, q, bcBox (all2_free q)⟩, ⟨_, q, bcBox (all2_free q)⟩, ⟨_, q, bcBox (all2_free q)⟩, trivial⟩ ?_
    obtain ⟨o1, hL1, h⟩ := h
    refine .loopB (frames_Run.b1 a0 a2) (fun (x1, x2, x3, x4, x5) => listEnv [(3, .ptr 0 1 10 0 0), (4, .ptr 1 1 4 0 0), (6, .ptr 2 1 4 0 0), (32, .rows (a2.map TMove.cells)), (33, i6 (a2.length : Int)), (34, i6 x5)]) (fun (x1, x2, x3, x4, x5) => [⟨10, [(TGraph.lit a0)], 0, none⟩, ⟨4, [[i6 x1, .rows (x2.map (cInt .i64)), u6 x3, .rows (x4.map (cInt .i64))]], 0, none⟩, ⟨4, [GJ_c0], 0, none⟩]) (fun (x6, x7, x8, x9) => listEnv [(4, .ptr 0 1 4 0 0), (6, .ptr 1 1 4 0 0)]) (fun (x6, x7, x8, x9) => [⟨4, [[i6 x6, .rows (x7.map (cInt .i64)), u6 x8, .rows (x9.map (cInt .i64))]], 0, none⟩, ⟨4, [GJ_c0], 0, none⟩]) hL1 (fun r_ => r = r_) ?_ ?_ ?_
    · rintro ⟨x6, x7, x8, x9⟩ rfl
      try dsimp only [Fin.on] at h
      refine .seq<|.reg0 q (.o (ldG q sz33 ag33 q)<|.o (stB (cs0 := GJ_c0) (cs := [i6 x6, .rows (x7.map (cInt .i64)), u6 x8, .rows (x9.map (cInt .i64))]) (cs1 := [i6 x6, .rows (x7.map (cInt .i64)), u6 x8, .rows (x9.map (cInt .i64))]) q q sz33 q ⟨Nat.le_of_ble_eq_true q, q⟩ q)<|.o (asV q)<|.o (asV q)<|.nil0) ?_
      replace h := h.symm
      subst h
      refine .k [(6, .cptr [i6 x6, .rows (x7.map (cInt .i64)), u6 x8, .rows (x9.map (cInt .i64))] 0), (7, i6 0), (8, i6 0)] ⟨cFixP q q (.cons (.free q q)<|.cons (.free q q)<|.cons (.free q q)<|.cons (.free q q)<|.nil), .free q q, .free q q, trivial⟩ ?_
      exact .ret q
    · rintro r_ rfl
      exact h
    · rintro ⟨x1, x2, x3, x4, x5⟩ z1 h hn1 hx1 hr1
      dsimp only [frames_Run.b1] at h
      refine .seq<|.reg0 q (.o (ltI q q)<|.nil0)<|.seq ?_
      by_cases c6 : x5 < (a2.length : Int)
      · rw [if_pos c6] at h
        refine .condT q (dt c6)<|.skip<|.seq<|.block<|.seq ?_
        obtain ⟨g21_1, h⟩ := h
        refine .room 0<|.reg0 q (.o (mvV q)<|.o (ixR (l := a2) (lit := TMove.lit) sl52 q q (fun _ => q) g21_1.1 g21_1.2)<|.o (ldCG q sz54 ag54 q)<|.op 3 q (alP (s := 2) ze54 ⟨q, by decide, q⟩ q)<|.o (asV q)<|.o (stB (cs0 := [i6 0, i6 0]) (cs := (TMove.lit (rdl a2 x5))) (cs1 := (TMove.lit (rdl a2 x5))) q q sz54 q ⟨Nat.le_of_ble_eq_true q, q⟩ q)<|.nil0) ?_
        refine .seq ?_
        obtain ⟨t22_3, g22_3, h⟩ := h
        refine .room 0<|.reg0 q (.o (ldG q sz29 ag29 q)<|.o (ldG q sz33 ag33 q)<|.o (ldG q sz54 ag54 q)<|.callI q (callee_of q go37 q) (.pure q q (frames_do.D g22_3))<|.o (mvT q)<|.o (exT q q)<|.o (exT q q)<|.op 4 q (alP (s := 4) ze33 ⟨q, by decide, q⟩ q)<|.o (stB (cs0 := GJ_c0) (cs := (TState.lit t22_3.1)) (cs1 := (TState.lit t22_3.1)) q q sz33 q ⟨Nat.le_of_ble_eq_true q, q⟩ q)<|.o (asV q)<|.nil0) ?_
        refine .seq<|.seq<|.reg0 q (.o (mvV q)<|.o (neI q q)<|.nil0) ?_
        by_cases c7 : t22_3.2 = 0
        · rw [if_pos c7] at h
          refine .condF q (nf c7)<|.skip<|.reg0 q (.o (ldG q sz33 ag33 q)<|.o (stB (cs0 := [i6 x1, .rows (x2.map (cInt .i64)), u6 x3, .rows (x4.map (cInt .i64))]) (cs := (TState.lit t22_3.1)) (cs1 := (TState.lit t22_3.1)) q q sz33 q ⟨Nat.le_of_ble_eq_true q, q⟩ q)<|.nil0)<|.inBlock<|.reg0 q (.o (addI q q)<|.o (mvV q)<|.nil0) ?_
          refine .keepL [0, 1, 2] [(3, .ptr 0 1 10 0 0), (4, .ptr 1 1 4 0 0), (6, .ptr 2 1 4 0 0), (32, .rows (a2.map TMove.cells)), (33, i6 (a2.length : Int)), (34, i6 (IntKind.i64.wrap (x5 + 1)))] [⟨10, [(TGraph.lit a0)], 0, none⟩, ⟨4, [(TState.lit t22_3.1)], 0, none⟩, ⟨4, [GJ_c0], 0, none⟩] (by decide) (by decide) ⟨.ptr q, .ptr q, .ptr q, .free q q, .free q q, .free q q, trivial⟩ ⟨⟨_, q, bcBox (all2_free q)⟩, ⟨_, q, bcBox (all2_free q)⟩, ⟨_, q, bcBox (all2_free q)⟩, trivial⟩ ?_
          exact hn1 _ h
        · rw [if_neg c7] at h
          refine .condT q (nt c7)<|.seq<|.reg0 q (.o (bldS (cs := GJ_c0) ze33 pl33 q q)<|.o (mvV q)<|.o (mvV q)<|.o (stB (cs0 := GJ_c0) (cs := GJ_c0) (cs1 := GJ_c0) q q sz33 q ⟨Nat.le_of_ble_eq_true q, q⟩ q)<|.o (asV q)<|.o (asV q)<|.nil0) ?_
          have q3 := hr1 _ h
          replace q3 := q3.symm
          subst q3
          refine .k [(6, .cptr GJ_c1 0), (7, i6 x5), (8, i6 t22_3.2)] ⟨cFixP q q (.cons (.free q q)<|.cons (.nil)<|.cons (.free q q)<|.cons (.nil)<|.nil), .free q q, .free q q, trivial⟩ ?_
          exact .ret q
      · rw [if_neg c6] at h
        refine .condF q (df c6)<|.exit q<|.keepL [1, 2] [(4, .ptr 0 1 4 0 0), (6, .ptr 1 1 4 0 0)] [⟨4, [[i6 x1, .rows (x2.map (cInt .i64)), u6 x3, .rows (x4.map (cInt .i64))]], 0, none⟩, ⟨4, [GJ_c0], 0, none⟩] (by decide) (by decide) ⟨.ptr q, .ptr q, trivial⟩ ⟨⟨_, q, bcBox (all2_free q)⟩, ⟨_, q, bcBox (all2_free q)⟩, trivial⟩ ?_
        exact hx1 _ h
  · rw [if_neg c1] at h
    refine .condT q (nt c1)<|.seq<|.reg0 q (.o (bldS (cs := GJ_c0) ze33 pl33 q q)<|.o (mvV q)<|.o (stB (cs0 := GJ_c0) (cs := GJ_c0) (cs1 := GJ_c0) q q sz33 q ⟨Nat.le_of_ble_eq_true q, q⟩ q)<|.o (asV q)<|.o (asV q)<|.nil0) ?_
    replace h := h.symm
    subst h
    refine .k [(6, .cptr GJ_c1 0), (7, i6 0), (8, i6 t2_2)] ⟨cFixP q q (.cons (.free q q)<|.cons (.nil)<|.cons (.free q q)<|.cons (.nil)<|.nil), .free q q, .free q q, trivial⟩ ?_
    exact .ret q
def l22_FramesReached.b1 (a2 : List TMove) : ((List Int) × Int) → Rnd (((List Int) × Int)) ((List Int)) Bool → Prop := fun (x2, x3) z1 => if ((decide (x3 < (a2.length : Int))) && (decide ((x2.length : Int) < 8))) = true then (((InR x3 a2.length)) ∧ ((Fits (x2.length + 1) 8)) ∧ z1 = .next ((x2 ++ [(rdl a2 x3).Draw]), (IntKind.i64.wrap (x3 + 1)))) else (z1 = .exit x2)
def l22_FramesReached.f (a0 : TGraph) (a1 : TState) (a2 : List TMove) (r : Bool) : Prop :=
  ∃ t2_0 : Bool, (l22_awake.f t2_0) ∧ if t2_0 = true then (∃ t3_2 : Bool, (l22_small.f a0 a1 t3_2) ∧ if ((!t3_2) || (decide ((a2.length : Int) > 10))) = true then (r = true) else (∃ o1 : Fin ((List Int)) Bool, Loop (l22_FramesReached.b1 a2) ([], 0) o1 ∧ o1.on (fun x4 => ∃ t16_3 : TState × Int × Int, (frames_Run.f a0 a1 a2 t16_3) ∧ ∃ t17_5 : (List TState) × Int, (frames_Explore.f a0 a1 x4 (a2.length : Int) 300 t17_5) ∧ ∃ t18_14 : Bool, ((t16_3.2.2 = 0) → (t17_5.2 = 0) → ¬ ((a2.length : Int) > 8) → r22_In.f t17_5.1 t16_3.1 t18_14) ∧ r = ((!(t16_3.2.2 == 0)) || ((!(t17_5.2 == 0)) || ((decide ((a2.length : Int) > 8)) || t18_14)))) (fun r_ => r = r_))) else (r = false)
theorem l22_FramesReached.D {a0 a1 a2 r} (h : l22_FramesReached.f a0 a1 a2 r) : D Tryz.prog X (.callH 5 [.agg (TGraph.lit a0), .agg (TState.lit a1), .rows (a2.map TMove.cells)] [] (.val (.bool r)) []) := by
  unfold l22_FramesReached.f at h
  refine .enter 77 0 fn5 q q q<|.seq<|.room 0<|.room 0<|.reg0 q (.o (bxP (s := 10) (cs := (TGraph.lit a0)) q ⟨q, by decide, q⟩ q)<|.op 1 q (bxP (s := 4) (cs := (TState.lit a1)) q ⟨q, by decide, q⟩ q)<|.o (asV q)<|.nil0)<|.seq<|.seq ?_
  obtain ⟨t2_0, g2_0, h⟩ := h
  refine .reg0 q (.c q go6 q q q (l22_awake.D g2_0)<|.o (notB q)<|.nil0) ?_
  by_cases c1 : t2_0 = true
  · rw [if_pos c1] at h
    refine .condF q (bnotF c1)<|.skip<|.seq<|.seq ?_
    obtain ⟨t3_2, g3_2, h⟩ := h
    refine .reg0 (e1 := listEnv [(2, .rows (a2.map TMove.cells)), (3, .ptr 0 1 10 0 0), (4, .ptr 1 1 4 0 0), (24, bo ((!t3_2) || (decide ((a2.length : Int) > 10))))]) (H1 := [⟨10, [(TGraph.lit a0)], 0, none⟩, ⟨4, [(TState.lit a1)], 0, none⟩]) q ?_ ?_
    · refine .o (ldG q sz29 ag29 q)<|.o (ldG q sz33 ag33 q)<|.c q go7 q q q (l22_small.D g3_2)<|.o (notB q)<|.m q<|?_
      by_cases c2 : t3_2 = true
      · exact (.g q (bnotF c2) (mvR q)<|.g q (bnotF c2) (lnR (l := a2) sl52 q)<|.g q (bnotF c2) (gtI q q)<|.o (pkFV q (bnotF c2) q)<|.nilL _ ⟨.free q q, .ptr q, .ptr q, cB q (mOrF (bnotF c2) q), trivial⟩)
      · exact (.n q (bnotT (nb c2))<|.n q (bnotT (nb c2))<|.n q (bnotT (nb c2))<|.o (pkTV q (bnotT (nb c2)) q)<|.nilL _ ⟨.free q q, .ptr q, .ptr q, cB q (mOrT (bnotT (nb c2))), trivial⟩)
    by_cases c3 : ((!t3_2) || (decide ((a2.length : Int) > 10))) = true
    · rw [if_pos c3] at h
      refine .condT q c3<|.seq<|.reg0 q (.o (asV q)<|.nil0) ?_
      replace h := h.symm
      subst h
      refine .kf [(6, bo true)] q q ?_
      exact .ret q
    · rw [if_neg c3] at h
      refine .condF q (nb c3)<|.skip<|.seq<|.reg0 q (.o (asV q)<|.nil0)<|.seq<|.seq<|.reg0 q (.o (asV q)<|.nil0)<|.block<|.room 1<|.keepL [0, 1, 2] [(2, .rows (a2.map TMove.cells)), (3, .ptr 0 1 10 0 0), (4, .ptr 1 1 4 0 0), (7, .own 2 0), (8, i6 0)] [⟨10, [(TGraph.lit a0)], 0, none⟩, ⟨4, [(TState.lit a1)], 0, none⟩, ⟨1, [].map (cInt .i64), 0, none⟩] (by decide) (by decide) ⟨.free q q, .ptr q, .ptr q, .nilOwn, .free q q, trivial⟩ ⟨⟨_, q, bcBox (all2_free q)⟩, ⟨_, q, bcBox (all2_free q)⟩, ⟨_, q, (bcRow (l := []) sl30 (Nat.le_refl _) q)⟩, trivial⟩ ?_
      obtain ⟨o1, hL1, h⟩ := h
      refine .loopB (l22_FramesReached.b1 a2) (fun (x2, x3) => listEnv [(2, .rows (a2.map TMove.cells)), (3, .ptr 0 1 10 0 0), (4, .ptr 1 1 4 0 0), (7, .own 2 x2.length), (8, i6 x3)]) (fun (x2, x3) => [⟨10, [(TGraph.lit a0)], 0, none⟩, ⟨4, [(TState.lit a1)], 0, none⟩, ⟨1, x2.map (cInt .i64), 0, none⟩]) (fun x4 => listEnv [(2, .rows (a2.map TMove.cells)), (3, .ptr 0 1 10 0 0), (4, .ptr 1 1 4 0 0), (7, .own 2 x4.length)]) (fun x4 => [⟨10, [(TGraph.lit a0)], 0, none⟩, ⟨4, [(TState.lit a1)], 0, none⟩, ⟨1, x4.map (cInt .i64), 0, none⟩]) hL1 (fun r_ => r = r_) ?_ ?_ ?_
      · rintro x4 rfl
        try dsimp only [Fin.on] at h
        refine .seq ?_
        obtain ⟨t16_3, g16_3, h⟩ := h
        refine .room 0<|.reg0 q (.o (ldG q sz29 ag29 q)<|.o (ldG q sz33 ag33 q)<|.o (mvR q)<|.callI q (callee_of q go22 q) (.pure q q (frames_Run.D g16_3))<|.o (mvT q)<|.o (exT q q)<|.o (exT q q)<|.o (exT q q)<|.op 3 q (alP (s := 4) ze33 ⟨q, by decide, q⟩ q)<|.o (stB (cs0 := GJ_c0) (cs := (TState.lit t16_3.1)) (cs1 := (TState.lit t16_3.1)) q q sz33 q ⟨Nat.le_of_ble_eq_true q, q⟩ q)<|.o (asV q)<|.o (asV q)<|.nil0) ?_
        refine .seq ?_
        obtain ⟨t17_5, g17_5, h⟩ := h
        refine .reg0 q (.o (ldG q sz29 ag29 q)<|.o (ldG q sz33 ag33 q)<|.o (mvO q)<|.o (mvR q)<|.o (lnR (l := a2) sl52 q)<|.callI q (callee_of q go19 q) (.lendC (args' := [.agg (TGraph.lit a0), .agg (TState.lit a1), .rows (x4.map (cInt .i64)), i6 (a2.length : Int), i6 300])  [2] true (.cons (.free q q)<|.cons (.free q q)<|.cons (cFixO (l := x4) sl30 q q q q)<|.cons (.free q q)<|.cons (.free q q)<|.nil) (by decide) q q q q (frames_Explore.D g17_5))<|.o (mvT q)<|.o (exT q q)<|.o (exT q q)<|.o (asR q)<|.a q<|.nil0) ?_
        refine .seq ?_
        obtain ⟨t18_14, g18_14, h⟩ := h
        refine .reg0 (e1 := listEnv [(6, bo ((!(t16_3.2.2 == 0)) || ((!(t17_5.2 == 0)) || ((decide ((a2.length : Int) > 8)) || t18_14))))]) (H1 := [⟨10, [(TGraph.lit a0)], 0, none⟩, ⟨4, [(TState.lit a1)], 0, none⟩, ⟨1, x4.map (cInt .i64), (max 0 (x4.map (cInt .i64) : List (List PV)).length), none⟩, ⟨4, [(TState.lit t16_3.1)], 0, none⟩]) q ?_ ?_
        · refine .m q<|.o (neI q q)<|.m q<|?_
          by_cases c10 : t16_3.2.2 = 0
          · refine .g q (nf c10) (mvV q)<|.g q (nf c10) (neI q q)<|.o (pkFV q (nf c10) q)<|.m q<|?_
            by_cases c11 : t17_5.2 = 0
            · refine .g q (nf c11) (mvR q)<|.g q (nf c11) (lnR (l := a2) sl52 q)<|.g q (nf c11) (gtI q q)<|.o (pkFV q (nf c11) q)<|.m q<|?_
              by_cases c12 : (a2.length : Int) > 8
              · exact (.n q (dt c12)<|.n q (dt c12)<|.n q (dt c12)<|.o (pkTV q (dt c12) q)<|.a q<|.nilL _ ⟨cB q (mOrF (bnotF (bt c10)) (mOrF (bnotF (bt c11)) (mOrT (dt c12)))), trivial⟩)
              · exact (.g q (df c12) (mvR q)<|.g q (df c12) (ldG q sz33 ag33 q)<|.callI (gT q q q (df c12)) (callee_of q go23 q) (.pure q q (r22_In.D (g18_14 c10 c11 c12)))<|.o (pkFV q (df c12) q)<|.a q<|.nilL _ ⟨cB q (mOrF (bnotF (bt c10)) (mOrF (bnotF (bt c11)) (mOrF (df c12) q))), trivial⟩)
            · exact (.n q (nt c11)<|.n q (nt c11)<|.n q (nt c11)<|.o (pkTV q (nt c11) q)<|.m q<|.n q q<|.n q q<|.n q q<|.o (pkTV q q q)<|.a q<|.nilL _ ⟨cB q (mOrF (bnotF (bt c10)) (mOrT (bnotT (bn c11)))), trivial⟩)
          · exact (.n q (nt c10)<|.n q (nt c10)<|.o (pkTV q (nt c10) q)<|.m q<|.n q q<|.n q q<|.n q q<|.o (pkTV q q q)<|.m q<|.n q q<|.n q q<|.n q q<|.o (pkTV q q q)<|.a q<|.nilL _ ⟨cB q (mOrT (bnotT (bn c10))), trivial⟩)
        replace h := h.symm
        subst h
        refine .kf [(6, bo ((!(t16_3.2.2 == 0)) || ((!(t17_5.2 == 0)) || ((decide ((a2.length : Int) > 8)) || t18_14))))] q q ?_
        exact .ret q
      · rintro r_ rfl
        exact h
      · rintro ⟨x2, x3⟩ z1 h hn1 hx1 hr1
        dsimp only [l22_FramesReached.b1] at h
        refine .seq<|.seq ?_
        refine .reg0 (e1 := listEnv [(2, .rows (a2.map TMove.cells)), (3, .ptr 0 1 10 0 0), (4, .ptr 1 1 4 0 0), (7, .own 2 x2.length), (8, i6 x3), (33, bo ((decide (x3 < (a2.length : Int))) && (decide ((x2.length : Int) < 8))))]) (H1 := [⟨10, [(TGraph.lit a0)], 0, none⟩, ⟨4, [(TState.lit a1)], 0, none⟩, ⟨1, x2.map (cInt .i64), 0, none⟩]) q ?_ ?_
        · refine .m q<|.o (mvR q)<|.o (lnR (l := a2) sl52 q)<|.o (ltI q q)<|.m q<|?_
          by_cases c8 : x3 < (a2.length : Int)
          · exact (.g q (dt c8) (mvO q)<|.g q (dt c8) (lnO (l := x2) sl30 q q q)<|.g q (dt c8) (ltI q q)<|.o (pkTV q (dt c8) q)<|.nilL _ ⟨.free q q, .ptr q, .ptr q, .own q, .free q q, cB q (mAndT (dt c8) q), trivial⟩)
          · exact (.n q (df c8)<|.n q (df c8)<|.n q (df c8)<|.o (pkFV q (df c8) q)<|.nilL _ ⟨.free q q, .ptr q, .ptr q, .own q, .free q q, cB q (mAndF (df c8)), trivial⟩)
        by_cases c9 : ((decide (x3 < (a2.length : Int))) && (decide ((x2.length : Int) < 8))) = true
        · rw [if_pos c9] at h
          refine .condT q c9<|.skip<|.seq<|.block ?_
          obtain ⟨g14_3, h⟩ := h
          obtain ⟨g14_7, h⟩ := h
          refine .room 0<|.room 0<|.reg0 q (.o (mvO q)<|.o (mvR q)<|.o (mvV q)<|.o (ixR (l := a2) (lit := TMove.lit) sl52 q q (fun _ => q) g14_3.1 g14_3.2)<|.o (faC fa54_1 q)<|.o (ldC q sz2 ag2 q)<|.op 3 q (bldL (s := 1) (cs := [i6 ((rdl a2 x3).Draw)]) un30 sz2 ze2 ⟨by decide, q, by decide⟩ q q q q)<|.o (ap1 (l := x2) ((rdl a2 x3).Draw) sl30 q q q (Nat.zero_le _) (elems_own (l := [(rdl a2 x3).Draw]) q q) g14_7)<|.o (asO q)<|.nil0) ?_
          refine .inBlock<|.reg0 q (.o (mvV q)<|.o (addI q q)<|.o (asV q)<|.nil0)<|.keepL [0, 1, 2] [(2, .rows (a2.map TMove.cells)), (3, .ptr 0 1 10 0 0), (4, .ptr 1 1 4 0 0), (7, .own 2 ((x2 ++ [(rdl a2 x3).Draw]).length)), (8, i6 (IntKind.i64.wrap (x3 + 1)))] [⟨10, [(TGraph.lit a0)], 0, none⟩, ⟨4, [(TState.lit a1)], 0, none⟩, ⟨1, (x2 ++ [(rdl a2 x3).Draw]).map (cInt .i64), 0, none⟩] (by decide) (by decide) ⟨.free q q, .ptr q, .ptr q, .own q, .free q q, trivial⟩ ⟨⟨_, q, bcBox (all2_free q)⟩, ⟨_, q, bcBox (all2_free q)⟩, ⟨_, q, bcRow (l := (x2 ++ [(rdl a2 x3).Draw])) sl30 (Nat.le_refl _) q⟩, trivial⟩ ?_
          exact hn1 _ h
        · rw [if_neg c9] at h
          refine .condF q (nb c9)<|.exit q<|.keepL [0, 1, 2] [(2, .rows (a2.map TMove.cells)), (3, .ptr 0 1 10 0 0), (4, .ptr 1 1 4 0 0), (7, .own 2 x2.length)] [⟨10, [(TGraph.lit a0)], 0, none⟩, ⟨4, [(TState.lit a1)], 0, none⟩, ⟨1, x2.map (cInt .i64), 0, none⟩] (by decide) (by decide) ⟨.free q q, .ptr q, .ptr q, .own q, trivial⟩ ⟨⟨_, q, bcBox (all2_free q)⟩, ⟨_, q, bcBox (all2_free q)⟩, ⟨_, q, bcRow (l := x2) sl30 (Nat.le_refl _) q⟩, trivial⟩ ?_
          exact hx1 _ h
  · rw [if_neg c1] at h
    refine .condT q (bnotT (nb c1))<|.seq<|.reg0 q (.o (asV q)<|.nil0) ?_
    replace h := h.symm
    subst h
    refine .kf [(6, bo false)] q q ?_
    exact .ret q
end Go.RM.Tryz
