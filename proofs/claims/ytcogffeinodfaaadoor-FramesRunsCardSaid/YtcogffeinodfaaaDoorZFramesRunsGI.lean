/- GI, for the statement FramesRuns: what it needs, no more. -/
import Derived.Test.YtcogffeinodfaaaDoorZFramesRunsGH
set_option linter.unusedVariables false
set_option maxRecDepth 8000
set_option maxHeartbeats 4000000
namespace Go.RM.Tryd
open Go.RM Go.Proofs
variable {X : FuncId → List PV → Heap → PV → Heap → Prop}
def r22_Run.b1 (a0 : TGraph) (a2 : List TMove) : (Int × (List Int) × Int × (List Int) × Int) → Rnd ((Int × (List Int) × Int × (List Int) × Int)) ((Int × (List Int) × Int × (List Int))) (TState × Int × Int) → Prop := fun (x1, x2, x3, x4, x5) z1 => if x5 < (a2.length : Int) then (((InR x5 a2.length)) ∧ ∃ t19_6 : TState × Int, (r22_do.f a0 (TState.mk x1 x2 x3 x4) (rdl a2 x5) t19_6) ∧ if t19_6.2 = 0 then (z1 = .next (t19_6.1.Node, t19_6.1.Env, t19_6.1.Marks, t19_6.1.Stack, (IntKind.i64.wrap (x5 + 1)))) else (z1 = .ret ((TState.mk 0 [] 0 []), x5, t19_6.2))) else (z1 = .exit (x1, x2, x3, x4))
def r22_Run.f (a0 : TGraph) (a1 : TState) (a2 : List TMove) (r : TState × Int × Int) : Prop :=
  ∃ t2_2 : Int, (r22_Check.f a0 a1 t2_2) ∧ if t2_2 = 0 then (((Fits (0 + a1.Env.length) 8)) ∧ ((Fits (0 + a1.Stack.length) 8)) ∧ ∃ o1 : Fin ((Int × (List Int) × Int × (List Int))) (TState × Int × Int), Loop (r22_Run.b1 a0 a2) (a1.Node, a1.Env, a1.Marks, a1.Stack, 0) o1 ∧ o1.on (fun (x6, x7, x8, x9) => r = ((TState.mk x6 x7 x8 x9), 0, 0)) (fun r_ => r = r_)) else (r = ((TState.mk 0 [] 0 []), 0, t2_2))
theorem r22_Run.D {a0 : TGraph} {a1 : TState} {a2 : List TMove} {r : TState × Int × Int} (h : r22_Run.f a0 a1 a2 r) : D Tryd.prog X (.callH 13 [.agg (TGraph.lit a0), .agg (TState.lit a1), .rows (a2.map TMove.cells)] [] (.tuple [.agg (TState.lit r.1), .val (.int .i64 r.2.1), .val (.int .i64 r.2.2)]) []) := by
  unfold r22_Run.f at h
  refine .enter 57 0 fn13 rfl rfl rfl ?_
  refine .seq <| .room 0 <| .room 0 <| .room 0 <| .reg0 rfl (.op 0 rfl (bxP (s := 10) (cs := (TGraph.lit a0)) rfl ⟨rfl, by decide, rfl⟩ rfl) <| .op 1 rfl (bxP (s := 4) (cs := (TState.lit a1)) rfl ⟨rfl, by decide, rfl⟩ rfl) <| .op 2 rfl (alP (s := 4) ze33 ⟨rfl, by decide, rfl⟩ rfl) <| .op 0 rfl (asV rfl) <| .op 0 rfl (asV rfl) <| .nil0) ?_
  refine .seq ?_
  obtain ⟨t2_2, g2_2, h⟩ := h
  refine .reg0 rfl (.op 0 rfl (ldG rfl sz29 ag29 rfl) <| .op 0 rfl (ldG rfl sz33 ag33 rfl) <| .callI rfl (callee_of rfl go16 rfl) (.pure rfl rfl (r22_Check.D g2_2)) <| .op 0 rfl (asV rfl) <| .nil0) ?_
  refine .seq <| .seq <| .reg0 rfl (.op 0 rfl (mvV rfl) <| .op 0 rfl (neI rfl rfl) <| .nil0) ?_
  by_cases c1 : t2_2 = 0
  · rw [if_pos c1] at h
    refine .condF rfl (bne_eq_false_iff_eq.mpr c1) ?_
    refine .skip <| .seq ?_
    obtain ⟨g4_7, h⟩ := h
    obtain ⟨g4_11, h⟩ := h
    refine .room 0 <| .room 0 <| .room 0 <| .room 0 <| .room 0 ?_
    refine .reg1 (e1 := listEnv [(2, .rows (a2.map TMove.cells)), (3, .ptr 0 1 10 0 0), (6, .ptr 2 1 4 0 0), (10, .ptr 7 1 4 0 0)]) (H1 := [⟨10, [(TGraph.lit a0)], 0, none⟩, ⟨4, [(TState.lit a1)], 0, none⟩, ⟨4, [[.val (.int .i64 0), .val (.slice none 0 0), .val (.int .u64 0), .val (.slice none 0 0)]], 0, none⟩, ⟨1, a1.Env.map (cInt .i64), 0, none⟩, Blk.hole, ⟨1, a1.Stack.map (cInt .i64), 0, none⟩, Blk.hole, ⟨4, [[.val (.int .i64 a1.Node), .own 3 a1.Env.length, .val (.int .u64 a1.Marks), .own 5 a1.Stack.length]], 0, none⟩]) rfl ?_ ?_
    · exact .drawM [(13, 10, .ptr 7 1 4 0 0), (12, 33, .agg [.val (.int .i64 a1.Node), .own 3 a1.Env.length, .val (.int .u64 a1.Marks), .own 5 a1.Stack.length]), (11, 32, .own 5 a1.Stack.length), (10, 31, .rows (a1.Stack.map (cInt .i64))), (9, 30, .ptr 1 1 4 0 3), (8, 29, .own 5 0), (7, 28, .own 3 a1.Env.length), (6, 27, .rows (a1.Env.map (cInt .i64))), (5, 26, .ptr 1 1 4 0 1), (4, 25, .own 3 0), (3, 24, .val (.int .u64 a1.Marks)), (2, 23, .ptr 1 1 4 0 2), (1, 22, .val (.int .i64 a1.Node)), (0, 21, .ptr 1 1 4 0 0)] [(14, 7, ⟨4, [[.val (.int .i64 a1.Node), .own 3 a1.Env.length, .val (.int .u64 a1.Marks), .own 5 a1.Stack.length]], 0, none⟩), (13, 7, ⟨4, [[.val (.int .i64 0), .val (.slice none 0 0), .val (.int .u64 0), .val (.slice none 0 0)]], 0, none⟩), (11, 5, ⟨1, a1.Stack.map (cInt .i64), 0, none⟩), (8, 5, ⟨1, [].map (cInt .i64), 0, none⟩), (7, 3, ⟨1, a1.Env.map (cInt .i64), 0, none⟩), (4, 3, ⟨1, [].map (cInt .i64), 0, none⟩)] [[], [0], [], [2], [], [], [5], [4, 6, 5], [], [], [9], [8, 10, 9, 7, 4, 6, 5], [1, 0, 3, 2, 7, 4, 6, 5, 11, 8, 10, 9], [], [13, 12, 1, 0, 3, 2, 7, 4, 6, 5, 11, 8, 10, 9]] (by rfl) (by rfl) (by rfl) (by exact ⟨fun S hS hD hn => .one 0 hS hD hn rfl rfl (faP fa33_0 rfl) rfl rfl rfl, fun S hS hD hn => .one 0 hS hD hn rfl rfl (ldP rfl sz3 ag3 rfl) rfl rfl rfl, fun S hS hD hn => .one 0 hS hD hn rfl rfl (faP fa33_2 rfl) rfl rfl rfl, fun S hS hD hn => .one 0 hS hD hn rfl rfl (ldP rfl sz31 ag31 rfl) rfl rfl rfl, fun S hS hD hn => .one 3 hS hD hn rfl rfl (bldL (s := 1) (cs := []) un30 sz2 ze2 ⟨by decide, rfl, by decide⟩ rfl rfl rfl rfl) rfl rfl rfl, fun S hS hD hn => .one 0 hS hD hn rfl rfl (faP fa33_1 rfl) rfl rfl rfl, fun S hS hD hn => .one 0 hS hD hn rfl rfl (ldP rfl sz30 ag30 rfl) rfl rfl rfl, fun S hS hD hn => .one 0 hS hD hn rfl rfl (apL (l := []) a1.Env sl30 rfl rfl rfl (Nat.zero_le _) rfl g4_7) rfl rfl rfl, fun S hS hD hn => .one 5 hS hD hn rfl rfl (bldL (s := 1) (cs := []) un23 sz3 ze3 ⟨by decide, rfl, by decide⟩ rfl rfl rfl rfl) rfl rfl rfl, fun S hS hD hn => .one 0 hS hD hn rfl rfl (faP fa33_3 rfl) rfl rfl rfl, fun S hS hD hn => .one 0 hS hD hn rfl rfl (ldP rfl sz23 ag23 rfl) rfl rfl rfl, fun S hS hD hn => .one 0 hS hD hn rfl rfl (apL (l := []) a1.Stack sl23 rfl rfl rfl (Nat.zero_le _) rfl g4_11) rfl rfl rfl, fun S hS hD hn => .one 0 hS hD hn rfl rfl (bldS (cs := [.val (.int .i64 a1.Node), .own 3 a1.Env.length, .val (.int .u64 a1.Marks), .own 5 a1.Stack.length]) ze33 pl33 rfl rfl) rfl rfl rfl, fun S hS hD hn => .one 7 hS hD hn rfl rfl (alP (s := 4) ze33 ⟨rfl, by decide, rfl⟩ rfl) rfl rfl rfl, fun S hS hD hn => .one0 0 rfl rfl (stB (cs0 := [.val (.int .i64 0), .val (.slice none 0 0), .val (.int .u64 0), .val (.slice none 0 0)]) (cs := [.val (.int .i64 a1.Node), .own 3 a1.Env.length, .val (.int .u64 a1.Marks), .own 5 a1.Stack.length]) (cs1 := [.val (.int .i64 a1.Node), .own 3 a1.Env.length, .val (.int .u64 a1.Marks), .own 5 a1.Stack.length]) rfl rfl sz33 rfl ⟨Nat.le_of_ble_eq_true rfl, rfl⟩ rfl) (drawE_other _ _ _ _ rfl) rfl, trivial⟩) _ (by exact ⟨.free rfl rfl, .ptr rfl, .ptr rfl, .ptr rfl, trivial⟩) (by rfl)
    refine .seq <| .seq <| .reg0 rfl (.op 0 rfl (asV rfl) <| .nil0) ?_
    refine .block <| .keepL [0, 2, 7] [(2, .rows (a2.map TMove.cells)), (3, .ptr 0 1 10 0 0), (6, .ptr 1 1 4 0 0), (10, .ptr 2 1 4 0 0), (11, .val (.int .i64 0))] [⟨10, [(TGraph.lit a0)], 0, none⟩, ⟨4, [[.val (.int .i64 0), .val (.slice none 0 0), .val (.int .u64 0), .val (.slice none 0 0)]], 0, none⟩, ⟨4, [(TState.lit a1)], 0, none⟩] (by decide) (by decide) ⟨.free rfl rfl, .ptr rfl, .ptr rfl, .ptr rfl, .free rfl rfl, trivial⟩ ⟨⟨_, rfl, bcBox (all2_free rfl)⟩, ⟨_, rfl, bcBox (all2_free rfl)⟩, ⟨_, rfl, bcBox (.cons (.free rfl rfl) <| .cons (cFixO (l := a1.Env) sl30 rfl rfl rfl rfl) <| .cons (.free rfl rfl) <| .cons (cFixO (l := a1.Stack) sl23 rfl rfl rfl rfl) <| .nil)⟩, trivial⟩ ?_
    obtain ⟨o1, hL1, h⟩ := h
    refine .loopB (r22_Run.b1 a0 a2) (fun (x1, x2, x3, x4, x5) => listEnv [(2, .rows (a2.map TMove.cells)), (3, .ptr 0 1 10 0 0), (6, .ptr 1 1 4 0 0), (10, .ptr 2 1 4 0 0), (11, .val (.int .i64 x5))]) (fun (x1, x2, x3, x4, x5) => [⟨10, [(TGraph.lit a0)], 0, none⟩, ⟨4, [[.val (.int .i64 0), .val (.slice none 0 0), .val (.int .u64 0), .val (.slice none 0 0)]], 0, none⟩, ⟨4, [[.val (.int .i64 x1), .rows (x2.map (cInt .i64)), .val (.int .u64 x3), .rows (x4.map (cInt .i64))]], 0, none⟩]) (fun (x6, x7, x8, x9) => listEnv [(6, .ptr 0 1 4 0 0), (10, .ptr 1 1 4 0 0)]) (fun (x6, x7, x8, x9) => [⟨4, [[.val (.int .i64 0), .val (.slice none 0 0), .val (.int .u64 0), .val (.slice none 0 0)]], 0, none⟩, ⟨4, [[.val (.int .i64 x6), .rows (x7.map (cInt .i64)), .val (.int .u64 x8), .rows (x9.map (cInt .i64))]], 0, none⟩]) hL1 (fun r_ => r = r_) ?_ ?_ ?_
    · rintro ⟨x6, x7, x8, x9⟩ rfl
      try dsimp only [Fin.on] at h
      refine .seq <| .reg0 rfl (.op 0 rfl (ldG rfl sz33 ag33 rfl) <| .op 0 rfl (stB (cs0 := [.val (.int .i64 0), .val (.slice none 0 0), .val (.int .u64 0), .val (.slice none 0 0)]) (cs := [.val (.int .i64 x6), .rows (x7.map (cInt .i64)), .val (.int .u64 x8), .rows (x9.map (cInt .i64))]) (cs1 := [.val (.int .i64 x6), .rows (x7.map (cInt .i64)), .val (.int .u64 x8), .rows (x9.map (cInt .i64))]) rfl rfl sz33 rfl ⟨Nat.le_of_ble_eq_true rfl, rfl⟩ rfl) <| .op 0 rfl (asV rfl) <| .op 0 rfl (asV rfl) <| .nil0) ?_
      replace h := h.symm
      subst h
      refine .keepL [] [(6, .cptr [.val (.int .i64 x6), .rows (x7.map (cInt .i64)), .val (.int .u64 x8), .rows (x9.map (cInt .i64))] 0), (7, .val (.int .i64 0)), (8, .val (.int .i64 0))] [] (by decide) (by decide) ⟨cFixP rfl rfl (.cons (.free rfl rfl) <| .cons (.free rfl rfl) <| .cons (.free rfl rfl) <| .cons (.free rfl rfl) <| .nil), .free rfl rfl, .free rfl rfl, trivial⟩ trivial ?_
      exact .ret rfl
    · rintro r_ rfl
      exact h
    · rintro ⟨x1, x2, x3, x4, x5⟩ z1 h hn1 hx1 hr1
      dsimp only [r22_Run.b1] at h
      refine .seq <| .seq <| .reg0 rfl (.op 0 rfl (mvV rfl) <| .op 0 rfl (mvR rfl) <| .op 0 rfl (lnR (l := a2) sl34 rfl) <| .op 0 rfl (ltI rfl rfl) <| .nil0) ?_
      by_cases c6 : x5 < (a2.length : Int)
      · rw [if_pos c6] at h
        refine .condT rfl (decide_eq_true c6) ?_
        refine .skip <| .seq <| .block <| .seq ?_
        obtain ⟨g19_4, h⟩ := h
        obtain ⟨t19_6, g19_6, h⟩ := h
        refine .room 0 ?_
        refine .reg1 (e1 := listEnv [(2, .rows (a2.map TMove.cells)), (3, .ptr 0 1 10 0 0), (6, .ptr 1 1 4 0 0), (10, .ptr 2 1 4 0 0), (11, .val (.int .i64 x5)), (12, .ptr 3 1 4 0 0), (13, .val (.int .i64 t19_6.2))]) (H1 := [⟨10, [(TGraph.lit a0)], 0, none⟩, ⟨4, [[.val (.int .i64 0), .val (.slice none 0 0), .val (.int .u64 0), .val (.slice none 0 0)]], 0, none⟩, ⟨4, [[.val (.int .i64 x1), .rows (x2.map (cInt .i64)), .val (.int .u64 x3), .rows (x4.map (cInt .i64))]], 0, none⟩, ⟨4, [(TState.lit t19_6.1)], 0, none⟩]) rfl ?_ ?_
        · exact .drawM [(12, 13, .val (.int .i64 t19_6.2)), (10, 12, .ptr 3 1 4 0 0), (9, 49, .val (.int .i64 t19_6.2)), (8, 48, .agg (TState.lit t19_6.1)), (7, 40, .tuple [.agg (TState.lit t19_6.1), .val (.int .i64 t19_6.2)]), (6, 47, .tuple [.agg (TState.lit t19_6.1), .val (.int .i64 t19_6.2)]), (5, 46, .agg (TMove.lit (rdl a2 x5))), (4, 45, .cptr (TMove.lit (rdl a2 x5)) 0), (3, 44, .val (.int .i64 x5)), (2, 43, .rows (a2.map TMove.cells)), (1, 42, .agg [.val (.int .i64 x1), .rows (x2.map (cInt .i64)), .val (.int .u64 x3), .rows (x4.map (cInt .i64))]), (0, 41, .agg (TGraph.lit a0))] [(11, 3, ⟨4, [(TState.lit t19_6.1)], 0, none⟩), (10, 3, ⟨4, [[.val (.int .i64 0), .val (.slice none 0 0), .val (.int .u64 0), .val (.slice none 0 0)]], 0, none⟩)] [[], [], [], [], [2, 3], [4, 2, 3], [0, 1, 5, 4, 2, 3], [6, 0, 1, 5, 4, 2, 3], [7, 6, 0, 1, 5, 4, 2, 3], [7, 6, 0, 1, 5, 4, 2, 3], [], [10, 8, 7, 6, 0, 1, 5, 4, 2, 3], [9, 7, 6, 0, 1, 5, 4, 2, 3, 11, 10, 8]] (by rfl) (by rfl) (by rfl) (by exact ⟨fun S hS hD hn => .one 0 hS hD hn rfl rfl (ldG rfl sz29 ag29 rfl) rfl rfl rfl, fun S hS hD hn => .one 0 hS hD hn rfl rfl (ldG rfl sz33 ag33 rfl) rfl rfl rfl, fun S hS hD hn => .one 0 hS hD hn rfl rfl (mvR rfl) rfl rfl rfl, fun S hS hD hn => .one 0 hS hD hn rfl rfl (mvV rfl) rfl rfl rfl, fun S hS hD hn => .one 0 hS hD hn rfl rfl (ixR (l := a2) (lit := TMove.lit) sl34 rfl rfl (fun _ => rfl) g19_4.1 g19_4.2) rfl rfl rfl, fun S hS hD hn => .one 0 hS hD hn rfl rfl (ldCG rfl sz44 ag44 rfl) rfl rfl rfl, fun S hS hD hn => .oneI hS hD hn rfl rfl (callee_of rfl go24 rfl) (.pure rfl rfl (r22_do.D g19_6)) rfl rfl rfl, fun S hS hD hn => .one 0 hS hD hn rfl rfl (mvT rfl) rfl rfl rfl, fun S hS hD hn => .one 0 hS hD hn rfl rfl (exT rfl rfl) rfl rfl rfl, fun S hS hD hn => .one 0 hS hD hn rfl rfl (exT rfl rfl) rfl rfl rfl, fun S hS hD hn => .one 3 hS hD hn rfl rfl (alP (s := 4) ze33 ⟨rfl, by decide, rfl⟩ rfl) rfl rfl rfl, fun S hS hD hn => .one0 0 rfl rfl (stB (cs0 := [.val (.int .i64 0), .val (.slice none 0 0), .val (.int .u64 0), .val (.slice none 0 0)]) (cs := (TState.lit t19_6.1)) (cs1 := (TState.lit t19_6.1)) rfl rfl sz33 rfl ⟨Nat.le_of_ble_eq_true rfl, rfl⟩ rfl) (drawE_other _ _ _ _ rfl) rfl, fun S hS hD hn => .one 0 hS hD hn rfl rfl (asV rfl) rfl rfl rfl, trivial⟩) _ (by exact ⟨.free rfl rfl, .ptr rfl, .ptr rfl, .ptr rfl, .free rfl rfl, .ptr rfl, .free rfl rfl, trivial⟩) (by rfl)
        refine .seq <| .seq <| .reg0 rfl (.op 0 rfl (mvV rfl) <| .op 0 rfl (neI rfl rfl) <| .nil0) ?_
        by_cases c7 : t19_6.2 = 0
        · rw [if_pos c7] at h
          refine .condF rfl (bne_eq_false_iff_eq.mpr c7) ?_
          refine .skip <| .reg0 rfl (.op 0 rfl (ldG rfl sz33 ag33 rfl) <| .op 0 rfl (stB (cs0 := [.val (.int .i64 x1), .rows (x2.map (cInt .i64)), .val (.int .u64 x3), .rows (x4.map (cInt .i64))]) (cs := (TState.lit t19_6.1)) (cs1 := (TState.lit t19_6.1)) rfl rfl sz33 rfl ⟨Nat.le_of_ble_eq_true rfl, rfl⟩ rfl) <| .nil0) ?_
          refine .inBlock <| .reg0 rfl (.op 0 rfl (mvV rfl) <| .op 0 rfl (addI rfl rfl) <| .op 0 rfl (asV rfl) <| .nil0) ?_
          refine .keepL [0, 1, 2] [(2, .rows (a2.map TMove.cells)), (3, .ptr 0 1 10 0 0), (6, .ptr 1 1 4 0 0), (10, .ptr 2 1 4 0 0), (11, .val (.int .i64 (IntKind.i64.wrap (x5 + 1))))] [⟨10, [(TGraph.lit a0)], 0, none⟩, ⟨4, [[.val (.int .i64 0), .val (.slice none 0 0), .val (.int .u64 0), .val (.slice none 0 0)]], 0, none⟩, ⟨4, [(TState.lit t19_6.1)], 0, none⟩] (by decide) (by decide) ⟨.free rfl rfl, .ptr rfl, .ptr rfl, .ptr rfl, .free rfl rfl, trivial⟩ ⟨⟨_, rfl, bcBox (all2_free rfl)⟩, ⟨_, rfl, bcBox (all2_free rfl)⟩, ⟨_, rfl, bcBox (all2_free rfl)⟩, trivial⟩ ?_
          exact hn1 _ h
        · rw [if_neg c7] at h
          refine .condT rfl (bne_iff_ne.mpr c7) ?_
          refine .seq <| .reg0 rfl (.op 0 rfl (bldS (cs := [.val (.int .i64 0), .val (.slice none 0 0), .val (.int .u64 0), .val (.slice none 0 0)]) ze33 pl33 rfl rfl) <| .op 0 rfl (mvV rfl) <| .op 0 rfl (mvV rfl) <| .op 0 rfl (stB (cs0 := [.val (.int .i64 0), .val (.slice none 0 0), .val (.int .u64 0), .val (.slice none 0 0)]) (cs := [.val (.int .i64 0), .val (.slice none 0 0), .val (.int .u64 0), .val (.slice none 0 0)]) (cs1 := [.val (.int .i64 0), .val (.slice none 0 0), .val (.int .u64 0), .val (.slice none 0 0)]) rfl rfl sz33 rfl ⟨Nat.le_of_ble_eq_true rfl, rfl⟩ rfl) <| .op 0 rfl (asV rfl) <| .op 0 rfl (asV rfl) <| .nil0) ?_
          have q3 := hr1 _ h
          replace q3 := q3.symm
          subst q3
          refine .keepL [] [(6, .cptr [.val (.int .i64 0), .rows (([] : List Int).map (cInt .i64)), .val (.int .u64 0), .rows (([] : List Int).map (cInt .i64))] 0), (7, .val (.int .i64 x5)), (8, .val (.int .i64 t19_6.2))] [] (by decide) (by decide) ⟨cFixP rfl rfl (.cons (.free rfl rfl) <| .cons (.nil) <| .cons (.free rfl rfl) <| .cons (.nil) <| .nil), .free rfl rfl, .free rfl rfl, trivial⟩ trivial ?_
          exact .ret rfl
      · rw [if_neg c6] at h
        refine .condF rfl (decide_eq_false c6) ?_
        refine .exit rfl <| .keepL [1, 2] [(6, .ptr 0 1 4 0 0), (10, .ptr 1 1 4 0 0)] [⟨4, [[.val (.int .i64 0), .val (.slice none 0 0), .val (.int .u64 0), .val (.slice none 0 0)]], 0, none⟩, ⟨4, [[.val (.int .i64 x1), .rows (x2.map (cInt .i64)), .val (.int .u64 x3), .rows (x4.map (cInt .i64))]], 0, none⟩] (by decide) (by decide) ⟨.ptr rfl, .ptr rfl, trivial⟩ ⟨⟨_, rfl, bcBox (all2_free rfl)⟩, ⟨_, rfl, bcBox (all2_free rfl)⟩, trivial⟩ ?_
        exact hx1 _ h
  · rw [if_neg c1] at h
    refine .condT rfl (bne_iff_ne.mpr c1) ?_
    refine .seq <| .reg0 rfl (.op 0 rfl (bldS (cs := [.val (.int .i64 0), .val (.slice none 0 0), .val (.int .u64 0), .val (.slice none 0 0)]) ze33 pl33 rfl rfl) <| .op 0 rfl (mvV rfl) <| .op 0 rfl (stB (cs0 := [.val (.int .i64 0), .val (.slice none 0 0), .val (.int .u64 0), .val (.slice none 0 0)]) (cs := [.val (.int .i64 0), .val (.slice none 0 0), .val (.int .u64 0), .val (.slice none 0 0)]) (cs1 := [.val (.int .i64 0), .val (.slice none 0 0), .val (.int .u64 0), .val (.slice none 0 0)]) rfl rfl sz33 rfl ⟨Nat.le_of_ble_eq_true rfl, rfl⟩ rfl) <| .op 0 rfl (asV rfl) <| .op 0 rfl (asV rfl) <| .nil0) ?_
    replace h := h.symm
    subst h
    refine .keepL [] [(6, .cptr [.val (.int .i64 0), .rows (([] : List Int).map (cInt .i64)), .val (.int .u64 0), .rows (([] : List Int).map (cInt .i64))] 0), (7, .val (.int .i64 0)), (8, .val (.int .i64 t2_2))] [] (by decide) (by decide) ⟨cFixP rfl rfl (.cons (.free rfl rfl) <| .cons (.nil) <| .cons (.free rfl rfl) <| .cons (.nil) <| .nil), .free rfl rfl, .free rfl rfl, trivial⟩ trivial ?_
    exact .ret rfl
def frames_Do.f (a0 : TGraph) (a1 : TState) (a2 : TMove) (r : TState × Int) : Prop :=
  ∃ t2_2 : Int, (frames_Check.f a0 a1 t2_2) ∧ if t2_2 = 0 then (∃ t4_3 : TState × Int, (frames_do.f a0 a1 a2 t4_3) ∧ r = (t4_3.1, t4_3.2)) else (r = ((TState.mk 0 [] 0 []), t2_2))
theorem frames_Do.D {a0 : TGraph} {a1 : TState} {a2 : TMove} {r : TState × Int} (h : frames_Do.f a0 a1 a2 r) : D Tryd.prog X (.callH 14 [.agg (TGraph.lit a0), .agg (TState.lit a1), .agg (TMove.lit a2)] [] (.tuple [.agg (TState.lit r.1), .val (.int .i64 r.2)]) []) := by
  unfold frames_Do.f at h
  refine .enter 22 0 fn14 rfl rfl rfl ?_
  refine .seq <| .room 0 <| .room 0 <| .room 0 <| .room 0 <| .reg0 rfl (.op 0 rfl (bxP (s := 10) (cs := (TGraph.lit a0)) rfl ⟨rfl, by decide, rfl⟩ rfl) <| .op 1 rfl (bxP (s := 4) (cs := (TState.lit a1)) rfl ⟨rfl, by decide, rfl⟩ rfl) <| .op 2 rfl (bxP (s := 2) (cs := (TMove.lit a2)) rfl ⟨rfl, by decide, rfl⟩ rfl) <| .op 3 rfl (alP (s := 4) ze33 ⟨rfl, by decide, rfl⟩ rfl) <| .op 0 rfl (asV rfl) <| .nil0) ?_
  refine .seq <| .seq ?_
  obtain ⟨t2_2, g2_2, h⟩ := h
  refine .reg0 rfl (.op 0 rfl (ldG rfl sz29 ag29 rfl) <| .op 0 rfl (ldG rfl sz33 ag33 rfl) <| .callI rfl (callee_of rfl go20 rfl) (.pure rfl rfl (frames_Check.D g2_2)) <| .op 0 rfl (asV rfl) <| .nil0) ?_
  refine .seq <| .reg0 rfl (.op 0 rfl (mvV rfl) <| .op 0 rfl (neI rfl rfl) <| .nil0) ?_
  by_cases c1 : t2_2 = 0
  · rw [if_pos c1] at h
    refine .condF rfl (bne_eq_false_iff_eq.mpr c1) ?_
    refine .skip <| .seq ?_
    obtain ⟨t4_3, g4_3, h⟩ := h
    refine .reg0 rfl (.op 0 rfl (ldG rfl sz29 ag29 rfl) <| .op 0 rfl (ldG rfl sz33 ag33 rfl) <| .op 0 rfl (ldG rfl sz44 ag44 rfl) <| .callI rfl (callee_of rfl go23 rfl) (.pure rfl rfl (frames_do.D g4_3)) <| .op 0 rfl (exT rfl rfl) <| .op 0 rfl (exT rfl rfl) <| .op 0 rfl (stB (cs0 := [.val (.int .i64 0), .val (.slice none 0 0), .val (.int .u64 0), .val (.slice none 0 0)]) (cs := (TState.lit t4_3.1)) (cs1 := (TState.lit t4_3.1)) rfl rfl sz33 rfl ⟨Nat.le_of_ble_eq_true rfl, rfl⟩ rfl) <| .op 0 rfl (asV rfl) <| .nil0) ?_
    replace h := h.symm
    subst h
    refine .keepL [] [(6, .cptr (TState.lit t4_3.1) 0), (7, .val (.int .i64 t4_3.2))] [] (by decide) (by decide) ⟨cFixP rfl rfl (.cons (.free rfl rfl) <| .cons (.free rfl rfl) <| .cons (.free rfl rfl) <| .cons (.free rfl rfl) <| .nil), .free rfl rfl, trivial⟩ trivial ?_
    exact .ret rfl
  · rw [if_neg c1] at h
    refine .condT rfl (bne_iff_ne.mpr c1) ?_
    refine .seq <| .reg0 rfl (.op 0 rfl (bldS (cs := [.val (.int .i64 0), .val (.slice none 0 0), .val (.int .u64 0), .val (.slice none 0 0)]) ze33 pl33 rfl rfl) <| .op 0 rfl (mvV rfl) <| .op 0 rfl (stB (cs0 := [.val (.int .i64 0), .val (.slice none 0 0), .val (.int .u64 0), .val (.slice none 0 0)]) (cs := [.val (.int .i64 0), .val (.slice none 0 0), .val (.int .u64 0), .val (.slice none 0 0)]) (cs1 := [.val (.int .i64 0), .val (.slice none 0 0), .val (.int .u64 0), .val (.slice none 0 0)]) rfl rfl sz33 rfl ⟨Nat.le_of_ble_eq_true rfl, rfl⟩ rfl) <| .op 0 rfl (asV rfl) <| .nil0) ?_
    replace h := h.symm
    subst h
    refine .keepL [] [(6, .cptr [.val (.int .i64 0), .rows (([] : List Int).map (cInt .i64)), .val (.int .u64 0), .rows (([] : List Int).map (cInt .i64))] 0), (7, .val (.int .i64 t2_2))] [] (by decide) (by decide) ⟨cFixP rfl rfl (.cons (.free rfl rfl) <| .cons (.nil) <| .cons (.free rfl rfl) <| .cons (.nil) <| .nil), .free rfl rfl, trivial⟩ trivial ?_
    exact .ret rfl
def r22_Do.f (a0 : TGraph) (a1 : TState) (a2 : TMove) (r : TState × Int) : Prop :=
  ∃ t2_2 : Int, (r22_Check.f a0 a1 t2_2) ∧ if t2_2 = 0 then (∃ t4_3 : TState × Int, (r22_do.f a0 a1 a2 t4_3) ∧ r = (t4_3.1, t4_3.2)) else (r = ((TState.mk 0 [] 0 []), t2_2))
theorem r22_Do.D {a0 : TGraph} {a1 : TState} {a2 : TMove} {r : TState × Int} (h : r22_Do.f a0 a1 a2 r) : D Tryd.prog X (.callH 15 [.agg (TGraph.lit a0), .agg (TState.lit a1), .agg (TMove.lit a2)] [] (.tuple [.agg (TState.lit r.1), .val (.int .i64 r.2)]) []) := by
  unfold r22_Do.f at h
  refine .enter 22 0 fn15 rfl rfl rfl ?_
  refine .seq <| .room 0 <| .room 0 <| .room 0 <| .room 0 <| .reg0 rfl (.op 0 rfl (bxP (s := 10) (cs := (TGraph.lit a0)) rfl ⟨rfl, by decide, rfl⟩ rfl) <| .op 1 rfl (bxP (s := 4) (cs := (TState.lit a1)) rfl ⟨rfl, by decide, rfl⟩ rfl) <| .op 2 rfl (bxP (s := 2) (cs := (TMove.lit a2)) rfl ⟨rfl, by decide, rfl⟩ rfl) <| .op 3 rfl (alP (s := 4) ze33 ⟨rfl, by decide, rfl⟩ rfl) <| .op 0 rfl (asV rfl) <| .nil0) ?_
  refine .seq ?_
  obtain ⟨t2_2, g2_2, h⟩ := h
  refine .reg0 rfl (.op 0 rfl (ldG rfl sz29 ag29 rfl) <| .op 0 rfl (ldG rfl sz33 ag33 rfl) <| .callI rfl (callee_of rfl go16 rfl) (.pure rfl rfl (r22_Check.D g2_2)) <| .op 0 rfl (asV rfl) <| .nil0) ?_
  refine .seq <| .seq <| .reg0 rfl (.op 0 rfl (mvV rfl) <| .op 0 rfl (neI rfl rfl) <| .nil0) ?_
  by_cases c1 : t2_2 = 0
  · rw [if_pos c1] at h
    refine .condF rfl (bne_eq_false_iff_eq.mpr c1) ?_
    refine .skip <| .seq ?_
    obtain ⟨t4_3, g4_3, h⟩ := h
    refine .reg0 rfl (.op 0 rfl (ldG rfl sz29 ag29 rfl) <| .op 0 rfl (ldG rfl sz33 ag33 rfl) <| .op 0 rfl (ldG rfl sz44 ag44 rfl) <| .callI rfl (callee_of rfl go24 rfl) (.pure rfl rfl (r22_do.D g4_3)) <| .op 0 rfl (exT rfl rfl) <| .op 0 rfl (exT rfl rfl) <| .op 0 rfl (stB (cs0 := [.val (.int .i64 0), .val (.slice none 0 0), .val (.int .u64 0), .val (.slice none 0 0)]) (cs := (TState.lit t4_3.1)) (cs1 := (TState.lit t4_3.1)) rfl rfl sz33 rfl ⟨Nat.le_of_ble_eq_true rfl, rfl⟩ rfl) <| .op 0 rfl (asV rfl) <| .nil0) ?_
    replace h := h.symm
    subst h
    refine .keepL [] [(6, .cptr (TState.lit t4_3.1) 0), (7, .val (.int .i64 t4_3.2))] [] (by decide) (by decide) ⟨cFixP rfl rfl (.cons (.free rfl rfl) <| .cons (.free rfl rfl) <| .cons (.free rfl rfl) <| .cons (.free rfl rfl) <| .nil), .free rfl rfl, trivial⟩ trivial ?_
    exact .ret rfl
  · rw [if_neg c1] at h
    refine .condT rfl (bne_iff_ne.mpr c1) ?_
    refine .seq <| .reg0 rfl (.op 0 rfl (bldS (cs := [.val (.int .i64 0), .val (.slice none 0 0), .val (.int .u64 0), .val (.slice none 0 0)]) ze33 pl33 rfl rfl) <| .op 0 rfl (mvV rfl) <| .op 0 rfl (stB (cs0 := [.val (.int .i64 0), .val (.slice none 0 0), .val (.int .u64 0), .val (.slice none 0 0)]) (cs := [.val (.int .i64 0), .val (.slice none 0 0), .val (.int .u64 0), .val (.slice none 0 0)]) (cs1 := [.val (.int .i64 0), .val (.slice none 0 0), .val (.int .u64 0), .val (.slice none 0 0)]) rfl rfl sz33 rfl ⟨Nat.le_of_ble_eq_true rfl, rfl⟩ rfl) <| .op 0 rfl (asV rfl) <| .nil0) ?_
    replace h := h.symm
    subst h
    refine .keepL [] [(6, .cptr [.val (.int .i64 0), .rows (([] : List Int).map (cInt .i64)), .val (.int .u64 0), .rows (([] : List Int).map (cInt .i64))] 0), (7, .val (.int .i64 t2_2))] [] (by decide) (by decide) ⟨cFixP rfl rfl (.cons (.free rfl rfl) <| .cons (.nil) <| .cons (.free rfl rfl) <| .cons (.nil) <| .nil), .free rfl rfl, trivial⟩ trivial ?_
    exact .ret rfl
def l22_FramesRuns.f (a0 : TGraph) (a1 : TState) (a2 : List TMove) (r : Bool) : Prop :=
  ∃ t2_0 : Bool, (l22_awake.f t2_0) ∧ if t2_0 = true then (∃ t3_2 : Bool, (l22_small.f a0 a1 t3_2) ∧ if t3_2 = true then (∃ t4_1 : (List TMove), (l22_few.f a2 t4_1) ∧ ∃ t5_3 : TState × Int × Int, (frames_Run.f a0 a1 t4_1 t5_3) ∧ ∃ t6_3 : TState × Int × Int, (r22_Run.f a0 a1 t4_1 t6_3) ∧ ∃ t7_2 : Bool, (r22_Same.f t5_3.1 t6_3.1 t7_2) ∧ if ((!t7_2) || ((!(t5_3.2.1 == t6_3.2.1)) || (t5_3.2.2 != t6_3.2.2))) = true then (r = false) else (if (t4_1.length : Int) = 0 then (r = true) else (((InR 0 t4_1.length)) ∧ ∃ t11_5 : TState × Int, (frames_Do.f a0 a1 (rdl t4_1 0) t11_5) ∧ ((InR 0 t4_1.length)) ∧ ∃ t12_5 : TState × Int, (r22_Do.f a0 a1 (rdl t4_1 0) t12_5) ∧ ∃ t13_2 : Bool, (r22_Same.f t11_5.1 t12_5.1 t13_2) ∧ r = (t13_2 && (t11_5.2 == t12_5.2))))) else (r = true)) else (r = false)
theorem l22_FramesRuns.D {a0 : TGraph} {a1 : TState} {a2 : List TMove} {r : Bool} (h : l22_FramesRuns.f a0 a1 a2 r) : D Tryd.prog X (.callH 5 [.agg (TGraph.lit a0), .agg (TState.lit a1), .rows (a2.map TMove.cells)] [] (.val (.bool r)) []) := by
  unfold l22_FramesRuns.f at h
  refine .enter 84 0 fn5 rfl rfl rfl ?_
  refine .seq <| .room 0 <| .room 0 <| .reg0 rfl (.op 0 rfl (bxP (s := 10) (cs := (TGraph.lit a0)) rfl ⟨rfl, by decide, rfl⟩ rfl) <| .op 1 rfl (bxP (s := 4) (cs := (TState.lit a1)) rfl ⟨rfl, by decide, rfl⟩ rfl) <| .op 0 rfl (asV rfl) <| .nil0) ?_
  refine .seq <| .seq ?_
  obtain ⟨t2_0, g2_0, h⟩ := h
  refine .reg0 rfl (.callI rfl (callee_of rfl go7 rfl) (.pure rfl rfl (l22_awake.D g2_0)) <| .op 0 rfl (notB rfl) <| .nil0) ?_
  by_cases c1 : t2_0 = true
  · rw [if_pos c1] at h
    refine .condF rfl (bnotF c1) ?_
    refine .skip <| .seq <| .seq ?_
    obtain ⟨t3_2, g3_2, h⟩ := h
    refine .reg0 rfl (.op 0 rfl (ldG rfl sz29 ag29 rfl) <| .op 0 rfl (ldG rfl sz33 ag33 rfl) <| .callI rfl (callee_of rfl go8 rfl) (.pure rfl rfl (l22_small.D g3_2)) <| .op 0 rfl (notB rfl) <| .nil0) ?_
    by_cases c2 : t3_2 = true
    · rw [if_pos c2] at h
      refine .condF rfl (bnotF c2) ?_
      refine .skip <| .seq ?_
      obtain ⟨t4_1, g4_1, h⟩ := h
      refine .reg0 rfl (.op 0 rfl (mvR rfl) <| .callI rfl (callee_of rfl go9 rfl) (.pure rfl rfl (l22_few.D g4_1)) <| .op 0 rfl (asR rfl) <| .nil0) ?_
      refine .seq ?_
      obtain ⟨t5_3, g5_3, h⟩ := h
      refine .room 0 <| .reg0 rfl (.op 0 rfl (ldG rfl sz29 ag29 rfl) <| .op 0 rfl (ldG rfl sz33 ag33 rfl) <| .op 0 rfl (mvR rfl) <| .callI rfl (callee_of rfl go10 rfl) (.pure rfl rfl (frames_Run.D g5_3)) <| .op 0 rfl (mvT rfl) <| .op 0 rfl (exT rfl rfl) <| .op 0 rfl (exT rfl rfl) <| .op 0 rfl (exT rfl rfl) <| .op 2 rfl (alP (s := 4) ze33 ⟨rfl, by decide, rfl⟩ rfl) <| .op 0 rfl (stB (cs0 := [.val (.int .i64 0), .val (.slice none 0 0), .val (.int .u64 0), .val (.slice none 0 0)]) (cs := (TState.lit t5_3.1)) (cs1 := (TState.lit t5_3.1)) rfl rfl sz33 rfl ⟨Nat.le_of_ble_eq_true rfl, rfl⟩ rfl) <| .op 0 rfl (asV rfl) <| .op 0 rfl (asV rfl) <| .nil0) ?_
      refine .seq ?_
      obtain ⟨t6_3, g6_3, h⟩ := h
      refine .room 0 ?_
      refine .reg0 (e1 := listEnv [(2, .rows (t4_1.map TMove.cells)), (3, .ptr 0 1 10 0 0), (4, .ptr 1 1 4 0 0), (7, .ptr 2 1 4 0 0), (8, .val (.int .i64 t5_3.2.1)), (9, .val (.int .i64 t5_3.2.2)), (10, .ptr 3 1 4 0 0), (11, .val (.int .i64 t6_3.2.1)), (12, .val (.int .i64 t6_3.2.2))]) (H1 := [⟨10, [(TGraph.lit a0)], 0, none⟩, ⟨4, [(TState.lit a1)], 0, none⟩, ⟨4, [(TState.lit t5_3.1)], 0, none⟩, ⟨4, [(TState.lit t6_3.1)], 0, none⟩]) rfl (.op 0 rfl (ldG rfl sz29 ag29 rfl) <| .op 0 rfl (ldG rfl sz33 ag33 rfl) <| .op 0 rfl (mvR rfl) <| .callI rfl (callee_of rfl go13 rfl) (.pure rfl rfl (r22_Run.D g6_3)) <| .op 0 rfl (mvT rfl) <| .op 0 rfl (exT rfl rfl) <| .op 0 rfl (exT rfl rfl) <| .op 0 rfl (exT rfl rfl) <| .op 3 rfl (alP (s := 4) ze33 ⟨rfl, by decide, rfl⟩ rfl) <| .op 0 rfl (stB (cs0 := [.val (.int .i64 0), .val (.slice none 0 0), .val (.int .u64 0), .val (.slice none 0 0)]) (cs := (TState.lit t6_3.1)) (cs1 := (TState.lit t6_3.1)) rfl rfl sz33 rfl ⟨Nat.le_of_ble_eq_true rfl, rfl⟩ rfl) <| .op 0 rfl (asV rfl) <| .op 0 rfl (asV rfl) <| .nilL _ ⟨.free rfl rfl, .ptr rfl, .ptr rfl, .ptr rfl, .free rfl rfl, .free rfl rfl, .ptr rfl, .free rfl rfl, .free rfl rfl, trivial⟩) ?_
      refine .seq <| .seq ?_
      obtain ⟨t7_2, g7_2, h⟩ := h
      refine .reg0 (e1 := listEnv [(2, .rows (t4_1.map TMove.cells)), (3, .ptr 0 1 10 0 0), (4, .ptr 1 1 4 0 0), (54, .val (.bool ((!t7_2) || ((!(t5_3.2.1 == t6_3.2.1)) || (t5_3.2.2 != t6_3.2.2)))))]) (H1 := [⟨10, [(TGraph.lit a0)], 0, none⟩, ⟨4, [(TState.lit a1)], 0, none⟩, ⟨4, [(TState.lit t5_3.1)], 0, none⟩, ⟨4, [(TState.lit t6_3.1)], 0, none⟩]) rfl ?_ ?_
      · by_cases c3 : t7_2 = true
        · by_cases c4 : t5_3.2.1 = t6_3.2.1
          · exact (.op 0 rfl (ldG rfl sz33 ag33 rfl) <| .op 0 rfl (ldG rfl sz33 ag33 rfl) <| .callI rfl (callee_of rfl go11 rfl) (.pure rfl rfl (r22_Same.D g7_2)) <| .op 0 rfl (notB rfl) <| .op 0 rfl (mvV rfl) <| .op 0 (gT rfl rfl rfl (bnotF c3)) (mvV rfl) <| .op 0 (gT rfl rfl rfl (bnotF c3)) (mvV rfl) <| .op 0 (gT rfl rfl rfl (bnotF c3)) (neI rfl rfl) <| .op 0 rfl (pkFV rfl (bnotF c3) rfl) <| .op 0 rfl (mvV rfl) <| .op 0 (gT rfl rfl rfl (bne_eq_false_iff_eq.mpr c4)) (mvV rfl) <| .op 0 (gT rfl rfl rfl (bne_eq_false_iff_eq.mpr c4)) (mvV rfl) <| .op 0 (gT rfl rfl rfl (bne_eq_false_iff_eq.mpr c4)) (neI rfl rfl) <| .op 0 rfl (pkFV rfl (bne_eq_false_iff_eq.mpr c4) rfl) <| .nilL _ ⟨.free rfl rfl, .ptr rfl, .ptr rfl, cB rfl (mOrF (bnotF c3) (mOrF (bnotF (beq_iff_eq.mpr c4)) rfl)), trivial⟩)
          · exact (.op 0 rfl (ldG rfl sz33 ag33 rfl) <| .op 0 rfl (ldG rfl sz33 ag33 rfl) <| .callI rfl (callee_of rfl go11 rfl) (.pure rfl rfl (r22_Same.D g7_2)) <| .op 0 rfl (notB rfl) <| .op 0 rfl (mvV rfl) <| .op 0 (gT rfl rfl rfl (bnotF c3)) (mvV rfl) <| .op 0 (gT rfl rfl rfl (bnotF c3)) (mvV rfl) <| .op 0 (gT rfl rfl rfl (bnotF c3)) (neI rfl rfl) <| .op 0 rfl (pkFV rfl (bnotF c3) rfl) <| .op 0 rfl (mvV rfl) <| .no (gF rfl rfl rfl (bne_iff_ne.mpr c4)) <| .no (gF rfl rfl rfl (bne_iff_ne.mpr c4)) <| .no (gF rfl rfl rfl (bne_iff_ne.mpr c4)) <| .op 0 rfl (pkTV rfl (bne_iff_ne.mpr c4) rfl) <| .nilL _ ⟨.free rfl rfl, .ptr rfl, .ptr rfl, cB rfl (mOrF (bnotF c3) (mOrT (bnotT (beq_eq_false_iff_ne.mpr c4)))), trivial⟩)
        · exact (.op 0 rfl (ldG rfl sz33 ag33 rfl) <| .op 0 rfl (ldG rfl sz33 ag33 rfl) <| .callI rfl (callee_of rfl go11 rfl) (.pure rfl rfl (r22_Same.D g7_2)) <| .op 0 rfl (notB rfl) <| .op 0 rfl (mvV rfl) <| .no (gF rfl rfl rfl (bnotT (Bool.eq_false_iff.mpr c3))) <| .no (gF rfl rfl rfl (bnotT (Bool.eq_false_iff.mpr c3))) <| .no (gF rfl rfl rfl (bnotT (Bool.eq_false_iff.mpr c3))) <| .op 0 rfl (pkTV rfl (bnotT (Bool.eq_false_iff.mpr c3)) rfl) <| .op 0 rfl (mvV rfl) <| .no (gF rfl rfl rfl rfl) <| .no (gF rfl rfl rfl rfl) <| .no (gF rfl rfl rfl rfl) <| .op 0 rfl (pkTV rfl rfl rfl) <| .nilL _ ⟨.free rfl rfl, .ptr rfl, .ptr rfl, cB rfl (mOrT (bnotT (Bool.eq_false_iff.mpr c3))), trivial⟩)
      by_cases c5 : ((!t7_2) || ((!(t5_3.2.1 == t6_3.2.1)) || (t5_3.2.2 != t6_3.2.2))) = true
      · rw [if_pos c5] at h
        refine .condT rfl c5 ?_
        refine .seq <| .reg0 rfl (.op 0 rfl (asV rfl) <| .nil0) ?_
        replace h := h.symm
        subst h
        refine .keepL [] [(6, .val (.bool false))] [] (by decide) (by decide) ⟨.free rfl rfl, trivial⟩ trivial ?_
        exact .ret rfl
      · rw [if_neg c5] at h
        refine .condF rfl (Bool.eq_false_iff.mpr c5) ?_
        refine .skip <| .seq <| .seq <| .reg0 rfl (.op 0 rfl (mvR rfl) <| .op 0 rfl (lnR (l := t4_1) sl34 rfl) <| .op 0 rfl (eqI rfl rfl) <| .nil0) ?_
        by_cases c6 : (t4_1.length : Int) = 0
        · rw [if_pos c6] at h
          refine .condT rfl (beq_iff_eq.mpr c6) ?_
          refine .seq <| .reg0 rfl (.op 0 rfl (asV rfl) <| .nil0) ?_
          replace h := h.symm
          subst h
          refine .keepL [] [(6, .val (.bool true))] [] (by decide) (by decide) ⟨.free rfl rfl, trivial⟩ trivial ?_
          exact .ret rfl
        · rw [if_neg c6] at h
          refine .condF rfl (beq_eq_false_iff_ne.mpr c6) ?_
          refine .skip <| .seq ?_
          obtain ⟨g11_3, h⟩ := h
          obtain ⟨t11_5, g11_5, h⟩ := h
          refine .room 0 ?_
          refine .reg1 (e1 := listEnv [(2, .rows (t4_1.map TMove.cells)), (3, .ptr 0 1 10 0 0), (4, .ptr 1 1 4 0 0), (13, .ptr 4 1 4 0 0), (14, .val (.int .i64 t11_5.2))]) (H1 := [⟨10, [(TGraph.lit a0)], 0, none⟩, ⟨4, [(TState.lit a1)], 0, none⟩, ⟨4, [(TState.lit t5_3.1)], 0, none⟩, ⟨4, [(TState.lit t6_3.1)], 0, none⟩, ⟨4, [(TState.lit t11_5.1)], 0, none⟩]) rfl ?_ ?_
          · exact .drawM [(11, 14, .val (.int .i64 t11_5.2)), (9, 13, .ptr 4 1 4 0 0), (8, 66, .val (.int .i64 t11_5.2)), (7, 65, .agg (TState.lit t11_5.1)), (6, 58, .tuple [.agg (TState.lit t11_5.1), .val (.int .i64 t11_5.2)]), (5, 64, .tuple [.agg (TState.lit t11_5.1), .val (.int .i64 t11_5.2)]), (4, 63, .agg (TMove.lit (rdl t4_1 0))), (3, 62, .cptr (TMove.lit (rdl t4_1 0)) 0), (2, 61, .rows (t4_1.map TMove.cells)), (1, 60, .agg (TState.lit a1)), (0, 59, .agg (TGraph.lit a0))] [(10, 4, ⟨4, [(TState.lit t11_5.1)], 0, none⟩), (9, 4, ⟨4, [[.val (.int .i64 0), .val (.slice none 0 0), .val (.int .u64 0), .val (.slice none 0 0)]], 0, none⟩)] [[], [], [], [2], [3, 2], [0, 1, 4, 3, 2], [5, 0, 1, 4, 3, 2], [6, 5, 0, 1, 4, 3, 2], [6, 5, 0, 1, 4, 3, 2], [], [9, 7, 6, 5, 0, 1, 4, 3, 2], [8, 6, 5, 0, 1, 4, 3, 2, 10, 9, 7]] (by rfl) (by rfl) (by rfl) (by exact ⟨fun S hS hD hn => .one 0 hS hD hn rfl rfl (ldG rfl sz29 ag29 rfl) rfl rfl rfl, fun S hS hD hn => .one 0 hS hD hn rfl rfl (ldG rfl sz33 ag33 rfl) rfl rfl rfl, fun S hS hD hn => .one 0 hS hD hn rfl rfl (mvR rfl) rfl rfl rfl, fun S hS hD hn => .one 0 hS hD hn rfl rfl (ixR (l := t4_1) (lit := TMove.lit) sl34 rfl rfl (fun _ => rfl) g11_3.1 g11_3.2) rfl rfl rfl, fun S hS hD hn => .one 0 hS hD hn rfl rfl (ldCG rfl sz44 ag44 rfl) rfl rfl rfl, fun S hS hD hn => .oneI hS hD hn rfl rfl (callee_of rfl go14 rfl) (.pure rfl rfl (frames_Do.D g11_5)) rfl rfl rfl, fun S hS hD hn => .one 0 hS hD hn rfl rfl (mvT rfl) rfl rfl rfl, fun S hS hD hn => .one 0 hS hD hn rfl rfl (exT rfl rfl) rfl rfl rfl, fun S hS hD hn => .one 0 hS hD hn rfl rfl (exT rfl rfl) rfl rfl rfl, fun S hS hD hn => .one 4 hS hD hn rfl rfl (alP (s := 4) ze33 ⟨rfl, by decide, rfl⟩ rfl) rfl rfl rfl, fun S hS hD hn => .one0 0 rfl rfl (stB (cs0 := [.val (.int .i64 0), .val (.slice none 0 0), .val (.int .u64 0), .val (.slice none 0 0)]) (cs := (TState.lit t11_5.1)) (cs1 := (TState.lit t11_5.1)) rfl rfl sz33 rfl ⟨Nat.le_of_ble_eq_true rfl, rfl⟩ rfl) (drawE_other _ _ _ _ rfl) rfl, fun S hS hD hn => .one 0 hS hD hn rfl rfl (asV rfl) rfl rfl rfl, trivial⟩) _ (by exact ⟨.free rfl rfl, .ptr rfl, .ptr rfl, .ptr rfl, .free rfl rfl, trivial⟩) (by rfl)
          refine .seq ?_
          obtain ⟨g12_3, h⟩ := h
          obtain ⟨t12_5, g12_5, h⟩ := h
          refine .room 0 ?_
          refine .reg1 (e1 := listEnv [(13, .ptr 4 1 4 0 0), (14, .val (.int .i64 t11_5.2)), (15, .ptr 5 1 4 0 0), (16, .val (.int .i64 t12_5.2))]) (H1 := [⟨10, [(TGraph.lit a0)], 0, none⟩, ⟨4, [(TState.lit a1)], 0, none⟩, ⟨4, [(TState.lit t5_3.1)], 0, none⟩, ⟨4, [(TState.lit t6_3.1)], 0, none⟩, ⟨4, [(TState.lit t11_5.1)], 0, none⟩, ⟨4, [(TState.lit t12_5.1)], 0, none⟩]) rfl ?_ ?_
          · exact .drawM [(11, 16, .val (.int .i64 t12_5.2)), (9, 15, .ptr 5 1 4 0 0), (8, 75, .val (.int .i64 t12_5.2)), (7, 74, .agg (TState.lit t12_5.1)), (6, 67, .tuple [.agg (TState.lit t12_5.1), .val (.int .i64 t12_5.2)]), (5, 73, .tuple [.agg (TState.lit t12_5.1), .val (.int .i64 t12_5.2)]), (4, 72, .agg (TMove.lit (rdl t4_1 0))), (3, 71, .cptr (TMove.lit (rdl t4_1 0)) 0), (2, 70, .rows (t4_1.map TMove.cells)), (1, 69, .agg (TState.lit a1)), (0, 68, .agg (TGraph.lit a0))] [(10, 5, ⟨4, [(TState.lit t12_5.1)], 0, none⟩), (9, 5, ⟨4, [[.val (.int .i64 0), .val (.slice none 0 0), .val (.int .u64 0), .val (.slice none 0 0)]], 0, none⟩)] [[], [], [], [2], [3, 2], [0, 1, 4, 3, 2], [5, 0, 1, 4, 3, 2], [6, 5, 0, 1, 4, 3, 2], [6, 5, 0, 1, 4, 3, 2], [], [9, 7, 6, 5, 0, 1, 4, 3, 2], [8, 6, 5, 0, 1, 4, 3, 2, 10, 9, 7]] (by rfl) (by rfl) (by rfl) (by exact ⟨fun S hS hD hn => .one 0 hS hD hn rfl rfl (ldG rfl sz29 ag29 rfl) rfl rfl rfl, fun S hS hD hn => .one 0 hS hD hn rfl rfl (ldG rfl sz33 ag33 rfl) rfl rfl rfl, fun S hS hD hn => .one 0 hS hD hn rfl rfl (mvR rfl) rfl rfl rfl, fun S hS hD hn => .one 0 hS hD hn rfl rfl (ixR (l := t4_1) (lit := TMove.lit) sl34 rfl rfl (fun _ => rfl) g12_3.1 g12_3.2) rfl rfl rfl, fun S hS hD hn => .one 0 hS hD hn rfl rfl (ldCG rfl sz44 ag44 rfl) rfl rfl rfl, fun S hS hD hn => .oneI hS hD hn rfl rfl (callee_of rfl go15 rfl) (.pure rfl rfl (r22_Do.D g12_5)) rfl rfl rfl, fun S hS hD hn => .one 0 hS hD hn rfl rfl (mvT rfl) rfl rfl rfl, fun S hS hD hn => .one 0 hS hD hn rfl rfl (exT rfl rfl) rfl rfl rfl, fun S hS hD hn => .one 0 hS hD hn rfl rfl (exT rfl rfl) rfl rfl rfl, fun S hS hD hn => .one 5 hS hD hn rfl rfl (alP (s := 4) ze33 ⟨rfl, by decide, rfl⟩ rfl) rfl rfl rfl, fun S hS hD hn => .one0 0 rfl rfl (stB (cs0 := [.val (.int .i64 0), .val (.slice none 0 0), .val (.int .u64 0), .val (.slice none 0 0)]) (cs := (TState.lit t12_5.1)) (cs1 := (TState.lit t12_5.1)) rfl rfl sz33 rfl ⟨Nat.le_of_ble_eq_true rfl, rfl⟩ rfl) (drawE_other _ _ _ _ rfl) rfl, fun S hS hD hn => .one 0 hS hD hn rfl rfl (asV rfl) rfl rfl rfl, trivial⟩) _ (by exact ⟨.ptr rfl, .free rfl rfl, .ptr rfl, .free rfl rfl, trivial⟩) (by rfl)
          refine .seq ?_
          obtain ⟨t13_2, g13_2, h⟩ := h
          refine .reg0 (e1 := listEnv [(6, .val (.bool (t13_2 && (t11_5.2 == t12_5.2))))]) (H1 := [⟨10, [(TGraph.lit a0)], 0, none⟩, ⟨4, [(TState.lit a1)], 0, none⟩, ⟨4, [(TState.lit t5_3.1)], 0, none⟩, ⟨4, [(TState.lit t6_3.1)], 0, none⟩, ⟨4, [(TState.lit t11_5.1)], 0, none⟩, ⟨4, [(TState.lit t12_5.1)], 0, none⟩]) rfl ?_ ?_
          · by_cases c7 : t13_2 = true
            · exact (.op 0 rfl (ldG rfl sz33 ag33 rfl) <| .op 0 rfl (ldG rfl sz33 ag33 rfl) <| .callI rfl (callee_of rfl go11 rfl) (.pure rfl rfl (r22_Same.D g13_2)) <| .op 0 rfl (mvV rfl) <| .op 0 (gT rfl rfl rfl c7) (mvV rfl) <| .op 0 (gT rfl rfl rfl c7) (mvV rfl) <| .op 0 (gT rfl rfl rfl c7) (eqI rfl rfl) <| .op 0 rfl (pkTV rfl c7 rfl) <| .op 0 rfl (asV rfl) <| .nilL _ ⟨cB rfl (mAndT c7 rfl), trivial⟩)
            · exact (.op 0 rfl (ldG rfl sz33 ag33 rfl) <| .op 0 rfl (ldG rfl sz33 ag33 rfl) <| .callI rfl (callee_of rfl go11 rfl) (.pure rfl rfl (r22_Same.D g13_2)) <| .op 0 rfl (mvV rfl) <| .no (gF rfl rfl rfl (Bool.eq_false_iff.mpr c7)) <| .no (gF rfl rfl rfl (Bool.eq_false_iff.mpr c7)) <| .no (gF rfl rfl rfl (Bool.eq_false_iff.mpr c7)) <| .op 0 rfl (pkFV rfl (Bool.eq_false_iff.mpr c7) rfl) <| .op 0 rfl (asV rfl) <| .nilL _ ⟨cB rfl (mAndF (Bool.eq_false_iff.mpr c7)), trivial⟩)
          replace h := h.symm
          subst h
          refine .keepL [] [(6, .val (.bool (t13_2 && (t11_5.2 == t12_5.2))))] [] (by decide) (by decide) ⟨.free rfl rfl, trivial⟩ trivial ?_
          exact .ret rfl
    · rw [if_neg c2] at h
      refine .condT rfl (bnotT (Bool.eq_false_iff.mpr c2)) ?_
      refine .seq <| .reg0 rfl (.op 0 rfl (asV rfl) <| .nil0) ?_
      replace h := h.symm
      subst h
      refine .keepL [] [(6, .val (.bool true))] [] (by decide) (by decide) ⟨.free rfl rfl, trivial⟩ trivial ?_
      exact .ret rfl
  · rw [if_neg c1] at h
    refine .condT rfl (bnotT (Bool.eq_false_iff.mpr c1)) ?_
    refine .seq <| .reg0 rfl (.op 0 rfl (asV rfl) <| .nil0) ?_
    replace h := h.symm
    subst h
    refine .keepL [] [(6, .val (.bool false))] [] (by decide) (by decide) ⟨.free rfl rfl, trivial⟩ trivial ?_
    exact .ret rfl
end Go.RM.Tryd
