/- GI, for the statement FramesExplores: what it needs, no more. -/
import Derived.Test.YtcogffeinodfaaaGreatDoorZFramesExploresGH
set_option linter.unusedVariables false
set_option maxRecDepth 8000
set_option maxHeartbeats 4000000
namespace Go.RM.Tryz
open Go.RM Go.Proofs
def r22_do.f (a0 : TGraph) (a1 : TState) (a2 : TMove) (r : TState × Int) : Prop :=
  ((Fits (0 + a1.Env.length) 8)) ∧ ((Fits (0 + a1.Stack.length) 8)) ∧ ∃ t3_11 : Bool, ((a2.Step = (-1)) → (a2.Draw = 0) → r22_over.f a0 a1 t3_11) ∧ if ((a2.Step == (-1)) && ((a2.Draw == 0) && t3_11)) = true then (((InR 0 a1.Stack.length)) ∧ ((InR (rdl a1.Stack 0) a0.Sites.length)) ∧ ((Cut 1 (a1.Stack.length : Int) a1.Stack.length)) ∧ r = ((TState.mk ((rdl a0.Sites (rdl a1.Stack 0)).Back) a1.Env a1.Marks (cutl a1.Stack 1 (a1.Stack.length : Int))), 0)) else (if ((decide (a2.Step < 0)) || (decide (a2.Step ≥ (a0.Steps.length : Int)))) = true then (r = ((TState.mk 0 [] 0 []), 221)) else (((InR a2.Step a0.Steps.length)) ∧ if ((!((rdl a0.Steps a2.Step).From == a1.Node)) || ((!(a2.Draw == 0)) && ((rdl a0.Steps a2.Step).Kind != 4))) = true then (r = ((TState.mk 0 [] 0 []), 221)) else (if (rdl a0.Steps a2.Step).Kind = 2 then (((InR ((rdl a0.Steps a2.Step).X) a1.Env.length)) ∧ ∃ t16_4 : Int, (r22_mark.f a1.Marks ((rdl a0.Steps a2.Step).X) false t16_4) ∧ r = ((TState.mk ((rdl a0.Steps a2.Step).To) (setl a1.Env ((rdl a0.Steps a2.Step).X) ((rdl a0.Steps a2.Step).K)) t16_4 a1.Stack), 0)) else (if (rdl a0.Steps a2.Step).Kind = 3 then (((InR ((rdl a0.Steps a2.Step).Y) a1.Env.length)) ∧ ((InR ((rdl a0.Steps a2.Step).X) a1.Env.length)) ∧ (((0 : Int) ≤ (IntKind.u64.wrap ((rdl a0.Steps a2.Step).Y)))) ∧ ∃ t20_12 : Int, (r22_mark.f a1.Marks ((rdl a0.Steps a2.Step).X) ((bitOp .and .u64 (shrI .u64 a1.Marks (IntKind.u64.wrap ((rdl a0.Steps a2.Step).Y))) 1) == 1) t20_12) ∧ r = ((TState.mk ((rdl a0.Steps a2.Step).To) (setl a1.Env ((rdl a0.Steps a2.Step).X) (rdl a1.Env ((rdl a0.Steps a2.Step).Y))) t20_12 a1.Stack), 0)) else (if (rdl a0.Steps a2.Step).Kind = 4 then (((InR ((rdl a0.Steps a2.Step).X) a1.Env.length)) ∧ ∃ t24_4 : Int, (r22_mark.f a1.Marks ((rdl a0.Steps a2.Step).X) false t24_4) ∧ r = ((TState.mk ((rdl a0.Steps a2.Step).To) (setl a1.Env ((rdl a0.Steps a2.Step).X) a2.Draw) t24_4 a1.Stack), 0)) else (if (rdl a0.Steps a2.Step).Kind = 5 then (∃ t27_4 : Int, (r22_mark.f a1.Marks ((rdl a0.Steps a2.Step).X) true t27_4) ∧ r = ((TState.mk ((rdl a0.Steps a2.Step).To) a1.Env t27_4 a1.Stack), 0)) else (if (rdl a0.Steps a2.Step).Kind = 6 then (∃ t30_4 : Int, (r22_mark.f a1.Marks ((rdl a0.Steps a2.Step).X) false t30_4) ∧ r = ((TState.mk ((rdl a0.Steps a2.Step).To) a1.Env t30_4 a1.Stack), 0)) else (if (rdl a0.Steps a2.Step).Kind = 8 then (if (a1.Stack.length : Int) ≥ 4096 then (r = ((TState.mk 0 [] 0 []), 2)) else (((InR ((rdl a0.Steps a2.Step).Site) a0.Sites.length)) ∧ ((InR ((rdl a0.Sites ((rdl a0.Steps a2.Step).Site)).Proc) a0.Entry.length)) ∧ ((Fits ([(rdl a0.Steps a2.Step).Site].length + a1.Stack.length) 8)) ∧ r = ((TState.mk (rdl a0.Entry ((rdl a0.Sites ((rdl a0.Steps a2.Step).Site)).Proc)) a1.Env a1.Marks ([(rdl a0.Steps a2.Step).Site] ++ a1.Stack)), 0))) else (r = ((TState.mk ((rdl a0.Steps a2.Step).To) a1.Env a1.Marks a1.Stack), 0))))))))))
abbrev GI_c0 : List PV := [i6 0, nul, u6 0, nul]
abbrev GI_c1 : List PV := [i6 0, .rows (([] : List Int).map (cInt .i64)), u6 0, .rows (([] : List Int).map (cInt .i64))]
theorem r22_do.D {a0 a1 a2 r} (h : r22_do.f a0 a1 a2 r) : D Tryz.prog X (.callH 56 [.agg (TGraph.lit a0), .agg (TState.lit a1), .agg (TMove.lit a2)] [] (.tuple [.agg (TState.lit r.1), .val (.int .i64 r.2)]) []) := by
  unfold r22_do.f at h
  refine .enter 190 0 fn56 q q q<|.seq<|.room 0<|.room 0<|.room 0<|.room 0<|.reg0 q (.o (bxP (s := 10) (cs := (TGraph.lit a0)) q ⟨q, by decide, q⟩ q)<|.op 1 q (bxP (s := 4) (cs := (TState.lit a1)) q ⟨q, by decide, q⟩ q)<|.op 2 q (bxP (s := 2) (cs := (TMove.lit a2)) q ⟨q, by decide, q⟩ q)<|.op 3 q (alP (s := 4) ze33 ⟨q, by decide, q⟩ q)<|.o (asV q)<|.nil0) ?_
  refine .seq ?_
  obtain ⟨g2_7, h⟩ := h
  obtain ⟨g2_11, h⟩ := h
  refine .room 0<|.room 0<|.room 0<|.room 0<|.room 0 ?_
  refine .reg1 (e1 := listEnv [(3, .ptr 0 1 10 0 0), (4, .ptr 1 1 4 0 0), (5, .ptr 2 1 2 0 0), (6, .ptr 3 1 4 0 0), (8, .ptr 8 1 4 0 0)]) (H1 := [⟨10, [(TGraph.lit a0)], 0, none⟩, ⟨4, [(TState.lit a1)], 0, none⟩, ⟨2, [(TMove.lit a2)], 0, none⟩, ⟨4, [GI_c0], 0, none⟩, ⟨1, a1.Env.map (cInt .i64), 0, none⟩, Blk.hole, ⟨1, a1.Stack.map (cInt .i64), 0, none⟩, Blk.hole, ⟨4, [[i6 a1.Node, .own 4 a1.Env.length, u6 a1.Marks, .own 6 a1.Stack.length]], 0, none⟩]) q ?_ ?_
  · exact .drawM [(13, 8, .ptr 8 1 4 0 0), (12, 22, .agg [i6 a1.Node, .own 4 a1.Env.length, u6 a1.Marks, .own 6 a1.Stack.length]), (11, 21, .own 6 a1.Stack.length), (10, 20, .rows (a1.Stack.map (cInt .i64))), (9, 19, .ptr 1 1 4 0 3), (8, 18, .own 6 0), (7, 17, .own 4 a1.Env.length), (6, 16, .rows (a1.Env.map (cInt .i64))), (5, 15, .ptr 1 1 4 0 1), (4, 14, .own 4 0), (3, 13, u6 a1.Marks), (2, 12, .ptr 1 1 4 0 2), (1, 11, i6 a1.Node), (0, 10, .ptr 1 1 4 0 0)] [(14, 8, ⟨4, [[i6 a1.Node, .own 4 a1.Env.length, u6 a1.Marks, .own 6 a1.Stack.length]], 0, none⟩), (13, 8, ⟨4, [GI_c0], 0, none⟩), (11, 6, ⟨1, a1.Stack.map (cInt .i64), 0, none⟩), (8, 6, ⟨1, [].map (cInt .i64), 0, none⟩), (7, 4, ⟨1, a1.Env.map (cInt .i64), 0, none⟩), (4, 4, ⟨1, [].map (cInt .i64), 0, none⟩)] [[], [0], [], [2], [], [], [5], [4, 6, 5], [], [], [9], [8, 10, 9, 7, 4, 6, 5], [1, 0, 3, 2, 7, 4, 6, 5, 11, 8, 10, 9], [], [13, 12, 1, 0, 3, 2, 7, 4, 6, 5, 11, 8, 10, 9]] (by rfl) (by rfl) (by rfl) (by exact ⟨oP (fun _ => faP fa33_0 q) q, oP (fun _ => ldP q sz3 ag3 q) q, oP (fun _ => faP fa33_2 q) q, oP (fun _ => ldP q sz31 ag31 q) q, oW 4 (fun _ => bldL (s := 1) (cs := []) un30 sz2 ze2 ⟨by decide, q, by decide⟩ q q q q) q fun _ => q, oP (fun _ => faP fa33_1 q) q, oP (fun _ => ldP q sz30 ag30 q) q, oW 0 (fun _ => apL (l := []) a1.Env sl30 q q q (Nat.zero_le _) q g2_7) q fun _ => q, oW 6 (fun _ => bldL (s := 1) (cs := []) un23 sz3 ze3 ⟨by decide, q, by decide⟩ q q q q) q fun _ => q, oP (fun _ => faP fa33_3 q) q, oP (fun _ => ldP q sz23 ag23 q) q, oW 0 (fun _ => apL (l := []) a1.Stack sl23 q q q (Nat.zero_le _) q g2_11) q fun _ => q, oP (fun _ => bldS (cs := [i6 a1.Node, .own 4 a1.Env.length, u6 a1.Marks, .own 6 a1.Stack.length]) ze33 pl33 q q) q, oW 8 (fun _ => alP (s := 4) ze33 ⟨q, by decide, q⟩ q) q fun _ => q, fun S hS hD hn => .one0 0 q q (stB (cs0 := GI_c0) (cs := [i6 a1.Node, .own 4 a1.Env.length, u6 a1.Marks, .own 6 a1.Stack.length]) (cs1 := [i6 a1.Node, .own 4 a1.Env.length, u6 a1.Marks, .own 6 a1.Stack.length]) q q sz33 q ⟨Nat.le_of_ble_eq_true q, q⟩ q) (drawE_other _ _ _ _ q) q, trivial⟩) _ (by exact ⟨.ptr q, .ptr q, .ptr q, .ptr q, .ptr q, trivial⟩) (by rfl)
  refine .seq<|.seq ?_
  obtain ⟨t3_11, g3_11, h⟩ := h
  refine .reg0 (e1 := listEnv [(3, .ptr 0 1 10 0 0), (4, .ptr 1 1 4 0 0), (5, .ptr 2 1 2 0 0), (6, .ptr 3 1 4 0 0), (8, .ptr 8 1 4 0 0), (35, bo ((a2.Step == (-1)) && ((a2.Draw == 0) && t3_11)))]) (H1 := [⟨10, [(TGraph.lit a0)], 0, none⟩, ⟨4, [(TState.lit a1)], 0, none⟩, ⟨2, [(TMove.lit a2)], 0, none⟩, ⟨4, [GI_c0], 0, none⟩, ⟨1, a1.Env.map (cInt .i64), 0, none⟩, Blk.hole, ⟨1, a1.Stack.map (cInt .i64), 0, none⟩, Blk.hole, ⟨4, [[i6 a1.Node, .own 4 a1.Env.length, u6 a1.Marks, .own 6 a1.Stack.length]], 0, none⟩]) q ?_ ?_
  · refine .o (faP fa54_0 q)<|.o (ldP q sz3 ag3 q)<|.o (eqI q q)<|.m q<|?_
    by_cases c1 : a2.Step = (-1)
    · refine .g q (bt c1) (faP fa54_1 q)<|.g q (bt c1) (ldP q sz2 ag2 q)<|.g q (bt c1) (eqI q q)<|.o (pkTV q (bt c1) q)<|.m q<|?_
      by_cases c2 : a2.Draw = 0
      · exact (.g q (bt c2) (ldG q sz29 ag29 q)<|.g q (bt c2) (ldG q sz33 ag33 q)<|.callI (gT q q q (bt c2)) (callee_of q go29 q) (.pure q q (r22_over.D (g3_11 c1 c2)))<|.o (pkTV q (bt c2) q)<|.nilL _ ⟨.ptr q, .ptr q, .ptr q, .ptr q, .ptr q, cB q (mAndT (bt c1) (mAndT (bt c2) q)), trivial⟩)
      · exact (.n q (bn c2)<|.n q (bn c2)<|.n q (bn c2)<|.o (pkFV q (bn c2) q)<|.nilL _ ⟨.ptr q, .ptr q, .ptr q, .ptr q, .ptr q, cB q (mAndT (bt c1) (mAndF (bn c2))), trivial⟩)
    · exact (.n q (bn c1)<|.n q (bn c1)<|.n q (bn c1)<|.o (pkFV q (bn c1) q)<|.m q<|.n q q<|.n q q<|.n q q<|.o (pkFV q q q)<|.nilL _ ⟨.ptr q, .ptr q, .ptr q, .ptr q, .ptr q, cB q (mAndF (bn c1)), trivial⟩)
  by_cases c3 : ((a2.Step == (-1)) && ((a2.Draw == 0) && t3_11)) = true
  · rw [if_pos c3] at h
    refine .condT q c3<|.seq ?_
    obtain ⟨g4_4, h⟩ := h
    obtain ⟨g4_6, h⟩ := h
    refine .reg1 (e1 := listEnv [(6, .ptr 3 1 4 0 0), (8, .ptr 8 1 4 0 0)]) (H1 := [⟨10, [(TGraph.lit a0)], 0, none⟩, ⟨4, [(TState.lit a1)], 0, none⟩, ⟨2, [(TMove.lit a2)], 0, none⟩, ⟨4, [GI_c0], 0, none⟩, ⟨1, a1.Env.map (cInt .i64), 0, none⟩, Blk.hole, ⟨1, a1.Stack.map (cInt .i64), 0, none⟩, Blk.hole, ⟨4, [[i6 ((rdl a0.Sites (rdl a1.Stack 0)).Back), .own 4 a1.Env.length, u6 a1.Marks, .own 6 a1.Stack.length]], 0, none⟩]) q ?_ ?_
    · exact .drawM [(9, 45, .ptr 8 1 4 0 0), (8, 44, i6 ((rdl a0.Sites (rdl a1.Stack 0)).Back)), (7, 43, .cptr (TSite.lit (rdl a0.Sites (rdl a1.Stack 0))) 3), (6, 42, .cptr (TSite.lit (rdl a0.Sites (rdl a1.Stack 0))) 0), (5, 41, i6 (rdl a1.Stack 0)), (4, 40, .cptr ((cInt .i64) (rdl a1.Stack 0)) 0), (3, 39, .rows (a1.Stack.map (cInt .i64))), (2, 38, .ptr 1 1 4 0 3), (1, 37, .rows (a0.Sites.map TSite.cells)), (0, 36, .ptr 0 1 10 0 7)] [(10, 8, ⟨4, [[i6 ((rdl a0.Sites (rdl a1.Stack 0)).Back), .own 4 a1.Env.length, u6 a1.Marks, .own 6 a1.Stack.length]], 0, none⟩)] [[], [0], [], [2], [3, 2], [4, 3, 2], [1, 0, 5, 4, 3, 2], [6, 1, 0, 5, 4, 3, 2], [7, 6, 1, 0, 5, 4, 3, 2], [0, 1, 2, 3, 4, 5, 6, 7, 8], [9, 0, 1, 2, 3, 4, 5, 6, 7, 8]] (by rfl) (by rfl) (by rfl) (by exact ⟨oP (fun _ => faP fa29_7 q) q, oP (fun _ => ldP q sz25 ag25 q) q, oP (fun _ => faP fa33_3 q) q, oP (fun _ => ldP q sz23 ag23 q) q, oP (fun _ => ixR (l := a1.Stack) (lit := (cInt .i64)) sl23 q q (fun _ => q) g4_4.1 g4_4.2) q, oP (fun _ => ldC q sz3 ag3 q) q, oP (fun _ => ixR (l := a0.Sites) (lit := TSite.lit) sl25 q q (fun _ => q) g4_6.1 g4_6.2) q, oP (fun _ => faC fa70_3 q) q, oP (fun _ => ldC q sz3 ag3 q) q, oP (fun _ => faP fa33_0 q) q, fun S hS hD hn => .one0 0 q q (stB (cs0 := [i6 a1.Node, .own 4 a1.Env.length, u6 a1.Marks, .own 6 a1.Stack.length]) (cs := [i6 ((rdl a0.Sites (rdl a1.Stack 0)).Back)]) (cs1 := [i6 ((rdl a0.Sites (rdl a1.Stack 0)).Back), .own 4 a1.Env.length, u6 a1.Marks, .own 6 a1.Stack.length]) q q sz3 q ⟨Nat.le_of_ble_eq_true q, q⟩ q) (drawE_other _ _ _ _ q) q, trivial⟩) _ (by exact ⟨.ptr q, .ptr q, trivial⟩) (by rfl)
    refine .seq ?_
    obtain ⟨g5_2, h⟩ := h
    refine .reg0 q (.o (faP fa33_3 q)<|.o (ldP q sz23 ag23 q)<|.o (slO (l := a1.Stack) (v := Int.toNat 1) sl23 q q q (bound_some q g5_2.1) q (cut_le' g5_2) (Nat.le_refl _))<|.o (faP fa33_3 q)<|.o (stB (cs0 := [i6 ((rdl a0.Sites (rdl a1.Stack 0)).Back), .own 4 a1.Env.length, u6 a1.Marks, .own 6 a1.Stack.length]) (cs := [.rows ((cutl a1.Stack 1 (a1.Stack.length : Int)).map (cInt .i64))]) (cs1 := [i6 ((rdl a0.Sites (rdl a1.Stack 0)).Back), .own 4 a1.Env.length, u6 a1.Marks, .rows ((cutl a1.Stack 1 (a1.Stack.length : Int)).map (cInt .i64))]) q q sz23 q ⟨Nat.le_of_ble_eq_true q, q⟩ q)<|.nil0) ?_
    refine .seq<|.reg0 q (.o (ldG q sz33 ag33 q)<|.o (stB (cs0 := GI_c0) (cs := [i6 ((rdl a0.Sites (rdl a1.Stack 0)).Back), .own 4 a1.Env.length, u6 a1.Marks, .rows ((cutl a1.Stack 1 (a1.Stack.length : Int)).map (cInt .i64))]) (cs1 := [i6 ((rdl a0.Sites (rdl a1.Stack 0)).Back), .own 4 a1.Env.length, u6 a1.Marks, .rows ((cutl a1.Stack 1 (a1.Stack.length : Int)).map (cInt .i64))]) q q sz33 q ⟨Nat.le_of_ble_eq_true q, q⟩ q)<|.o (asV q)<|.nil0) ?_
    replace h := h.symm
    subst h
    refine .k [(6, .cptr [i6 ((rdl a0.Sites (rdl a1.Stack 0)).Back), .rows (a1.Env.map (cInt .i64)), u6 a1.Marks, .rows ((cutl a1.Stack 1 (a1.Stack.length : Int)).map (cInt .i64))] 0), (7, i6 0)] ⟨cFixP q q (.cons (.free q q)<|.cons (cFixO (l := a1.Env) sl30 q q q q)<|.cons (.free q q)<|.cons (.free q q)<|.nil), .free q q, trivial⟩ ?_
    exact .ret q
  · rw [if_neg c3] at h
    refine .condF q (nb c3)<|.skip<|.seq<|.seq ?_
    refine .reg0 (e1 := listEnv [(3, .ptr 0 1 10 0 0), (4, .ptr 1 1 4 0 0), (5, .ptr 2 1 2 0 0), (6, .ptr 3 1 4 0 0), (8, .ptr 8 1 4 0 0), (61, bo ((decide (a2.Step < 0)) || (decide (a2.Step ≥ (a0.Steps.length : Int)))))]) (H1 := [⟨10, [(TGraph.lit a0)], 0, none⟩, ⟨4, [(TState.lit a1)], 0, none⟩, ⟨2, [(TMove.lit a2)], 0, none⟩, ⟨4, [GI_c0], 0, none⟩, ⟨1, a1.Env.map (cInt .i64), 0, none⟩, Blk.hole, ⟨1, a1.Stack.map (cInt .i64), 0, none⟩, Blk.hole, ⟨4, [[i6 a1.Node, .own 4 a1.Env.length, u6 a1.Marks, .own 6 a1.Stack.length]], 0, none⟩]) q ?_ ?_
    · refine .o (faP fa54_0 q)<|.o (ldP q sz3 ag3 q)<|.o (ltI q q)<|.m q<|?_
      by_cases c4 : a2.Step < 0
      · exact (.n q (dt c4)<|.n q (dt c4)<|.n q (dt c4)<|.n q (dt c4)<|.n q (dt c4)<|.n q (dt c4)<|.o (pkTV q (dt c4) q)<|.nilL _ ⟨.ptr q, .ptr q, .ptr q, .ptr q, .ptr q, cB q (mOrT (dt c4)), trivial⟩)
      · exact (.g q (df c4) (faP fa54_0 q)<|.g q (df c4) (ldP q sz3 ag3 q)<|.g q (df c4) (faP fa29_6 q)<|.g q (df c4) (ldP q sz24 ag24 q)<|.g q (df c4) (lnR (l := a0.Steps) sl24 q)<|.g q (df c4) (geI q q)<|.o (pkFV q (df c4) q)<|.nilL _ ⟨.ptr q, .ptr q, .ptr q, .ptr q, .ptr q, cB q (mOrF (df c4) q), trivial⟩)
    by_cases c5 : ((decide (a2.Step < 0)) || (decide (a2.Step ≥ (a0.Steps.length : Int)))) = true
    · rw [if_pos c5] at h
      refine .condT q c5<|.seq<|.reg0 q (.o (bldS (cs := GI_c0) ze33 pl33 q q)<|.o (stB (cs0 := GI_c0) (cs := GI_c0) (cs1 := GI_c0) q q sz33 q ⟨Nat.le_of_ble_eq_true q, q⟩ q)<|.o (asV q)<|.nil0) ?_
      replace h := h.symm
      subst h
      refine .k [(6, .cptr GI_c1 0), (7, i6 221)] ⟨cFixP q q (.cons (.free q q)<|.cons (.nil)<|.cons (.free q q)<|.cons (.nil)<|.nil), .free q q, trivial⟩ ?_
      exact .ret q
    · rw [if_neg c5] at h
      refine .condF q (nb c5)<|.skip<|.seq ?_
      obtain ⟨g9_4, h⟩ := h
      refine .room 0<|.reg0 q (.o (faP fa29_6 q)<|.o (ldP q sz24 ag24 q)<|.o (faP fa54_0 q)<|.o (ldP q sz3 ag3 q)<|.o (ixR (l := a0.Steps) (lit := TStep.lit) sl24 q q (fun _ => q) g9_4.1 g9_4.2)<|.o (ldCG q sz65 ag65 q)<|.op 9 q (alP (s := 7) ze65 ⟨q, by decide, q⟩ q)<|.o (stB (cs0 := [i6 0, i6 0, i6 0, i6 0, i6 0, i6 0, i6 0]) (cs := (TStep.lit (rdl a0.Steps a2.Step))) (cs1 := (TStep.lit (rdl a0.Steps a2.Step))) q q sz65 q ⟨Nat.le_of_ble_eq_true q, q⟩ q)<|.nil0) ?_
      refine .seq<|.seq ?_
      refine .reg0 (e1 := listEnv [(3, .ptr 0 1 10 0 0), (4, .ptr 1 1 4 0 0), (5, .ptr 2 1 2 0 0), (6, .ptr 3 1 4 0 0), (8, .ptr 8 1 4 0 0), (9, .ptr 9 1 7 0 0), (83, bo ((!((rdl a0.Steps a2.Step).From == a1.Node)) || ((!(a2.Draw == 0)) && ((rdl a0.Steps a2.Step).Kind != 4))))]) (H1 := [⟨10, [(TGraph.lit a0)], 0, none⟩, ⟨4, [(TState.lit a1)], 0, none⟩, ⟨2, [(TMove.lit a2)], 0, none⟩, ⟨4, [GI_c0], 0, none⟩, ⟨1, a1.Env.map (cInt .i64), 0, none⟩, Blk.hole, ⟨1, a1.Stack.map (cInt .i64), 0, none⟩, Blk.hole, ⟨4, [[i6 a1.Node, .own 4 a1.Env.length, u6 a1.Marks, .own 6 a1.Stack.length]], 0, none⟩, ⟨7, [(TStep.lit (rdl a0.Steps a2.Step))], 0, none⟩]) q ?_ ?_
      · refine .o (faP fa65_0 q)<|.o (ldP q sz3 ag3 q)<|.o (faP fa33_0 q)<|.o (ldP q sz3 ag3 q)<|.o (neI q q)<|.m q<|?_
        by_cases c6 : (rdl a0.Steps a2.Step).From = a1.Node
        · refine .g q (nf c6) (faP fa54_1 q)<|.g q (nf c6) (ldP q sz2 ag2 q)<|.g q (nf c6) (neI q q)<|.g q (nf c6) (mvV q)<|?_
          by_cases c7 : a2.Draw = 0
          · exact (.n q (nf c7)<|.n q (nf c7)<|.n q (nf c7)<|.g q (nf c6) (pkFV q (nf c7) q)<|.o (pkFV q (nf c6) q)<|.nilL _ ⟨.ptr q, .ptr q, .ptr q, .ptr q, .ptr q, .ptr q, cB q (mOrF (bnotF (bt c6)) (mAndF (bnotF (bt c7)))), trivial⟩)
          · exact (.g q (nt c7) (faP fa65_2 q)<|.g q (nt c7) (ldP q sz63 ag63 q)<|.g q (nt c7) (neI q q)<|.g q (nf c6) (pkTV q (nt c7) q)<|.o (pkFV q (nf c6) q)<|.nilL _ ⟨.ptr q, .ptr q, .ptr q, .ptr q, .ptr q, .ptr q, cB q (mOrF (bnotF (bt c6)) (mAndT (bnotT (bn c7)) q)), trivial⟩)
        · exact (.n q (nt c6)<|.n q (nt c6)<|.n q (nt c6)<|.n q (nt c6)<|.u q<|.u q<|.u q<|.n q (nt c6)<|.o (pkTV q (nt c6) q)<|.nilL _ ⟨.ptr q, .ptr q, .ptr q, .ptr q, .ptr q, .ptr q, cB q (mOrT (bnotT (bn c6))), trivial⟩)
      by_cases c8 : ((!((rdl a0.Steps a2.Step).From == a1.Node)) || ((!(a2.Draw == 0)) && ((rdl a0.Steps a2.Step).Kind != 4))) = true
      · rw [if_pos c8] at h
        refine .condT q c8<|.seq<|.reg0 q (.o (bldS (cs := GI_c0) ze33 pl33 q q)<|.o (stB (cs0 := GI_c0) (cs := GI_c0) (cs1 := GI_c0) q q sz33 q ⟨Nat.le_of_ble_eq_true q, q⟩ q)<|.o (asV q)<|.nil0) ?_
        replace h := h.symm
        subst h
        refine .k [(6, .cptr GI_c1 0), (7, i6 221)] ⟨cFixP q q (.cons (.free q q)<|.cons (.nil)<|.cons (.free q q)<|.cons (.nil)<|.nil), .free q q, trivial⟩ ?_
        exact .ret q
      · rw [if_neg c8] at h
        refine .condF q (nb c8)<|.skip<|.seq<|.reg0 q (.o (faP fa65_1 q)<|.o (ldP q sz3 ag3 q)<|.o (faP fa33_0 q)<|.o (stB (cs0 := [i6 a1.Node, .own 4 a1.Env.length, u6 a1.Marks, .own 6 a1.Stack.length]) (cs := [i6 ((rdl a0.Steps a2.Step).To)]) (cs1 := [i6 ((rdl a0.Steps a2.Step).To), .own 4 a1.Env.length, u6 a1.Marks, .own 6 a1.Stack.length]) q q sz3 q ⟨Nat.le_of_ble_eq_true q, q⟩ q)<|.nil0) ?_
        refine .seq<|.seq<|.reg0 q (.o (faP fa65_2 q)<|.o (ldP q sz63 ag63 q)<|.nil0)<|.block<|.seq<|.reg0 q (.o (eqI q q)<|.o (asV q)<|.nil0) ?_
        by_cases c9 : (rdl a0.Steps a2.Step).Kind = 2
        · rw [if_pos c9] at h
          refine .condT q (bt c9)<|.seq ?_
          obtain ⟨g15_6, h⟩ := h
          refine .reg0 q (.o (faP fa33_1 q)<|.o (ldP q sz30 ag30 q)<|.o (faP fa65_3 q)<|.o (ldP q sz3 ag3 q)<|.o (faP fa65_5 q)<|.o (ldP q sz2 ag2 q)<|.o (ixO (l := a1.Env) sl30 q q q q g15_6.1 g15_6.2)<|.o (stO (l := a1.Env) (j := ((rdl a0.Steps a2.Step).X)) (cs := [i6 ((rdl a0.Steps a2.Step).K)]) ((rdl a0.Steps a2.Step).K) sl30 q q sz2 q q g15_6.1 g15_6.2 (Nat.zero_le _) ⟨Nat.le_of_ble_eq_true q, q⟩ q)<|.nil0) ?_
          obtain ⟨t16_4, g16_4, h⟩ := h
          refine .reg0 q (.o (faP fa33_2 q)<|.o (ldP q sz31 ag31 q)<|.o (faP fa65_3 q)<|.o (ldP q sz3 ag3 q)<|.c q go78 q q q (r22_mark.D g16_4)<|.o (faP fa33_2 q)<|.o (stB (cs0 := [i6 ((rdl a0.Steps a2.Step).To), .own 4 a1.Env.length, u6 a1.Marks, .own 6 a1.Stack.length]) (cs := [u6 t16_4]) (cs1 := [i6 ((rdl a0.Steps a2.Step).To), .own 4 a1.Env.length, u6 t16_4, .own 6 a1.Stack.length]) q q sz31 q ⟨Nat.le_of_ble_eq_true q, q⟩ q)<|.nil0) ?_
          refine .inBlock<|.seq<|.reg0 q (.o (ldG q sz33 ag33 q)<|.o (stB (cs0 := GI_c0) (cs := [i6 ((rdl a0.Steps a2.Step).To), .own 4 a1.Env.length, u6 t16_4, .own 6 a1.Stack.length]) (cs1 := [i6 ((rdl a0.Steps a2.Step).To), .own 4 a1.Env.length, u6 t16_4, .own 6 a1.Stack.length]) q q sz33 q ⟨Nat.le_of_ble_eq_true q, q⟩ q)<|.o (asV q)<|.nil0) ?_
          replace h := h.symm
          subst h
          refine .k [(6, .cptr [i6 ((rdl a0.Steps a2.Step).To), .rows ((setl a1.Env ((rdl a0.Steps a2.Step).X) ((rdl a0.Steps a2.Step).K)).map (cInt .i64)), u6 t16_4, .rows (a1.Stack.map (cInt .i64))] 0), (7, i6 0)] ⟨cFixP q q (.cons (.free q q)<|.cons (cFixO (l := (setl a1.Env ((rdl a0.Steps a2.Step).X) ((rdl a0.Steps a2.Step).K))) sl30 q q (by simp only [setl, List.length_set]) q)<|.cons (.free q q)<|.cons (cFixO (l := a1.Stack) sl23 q q q q)<|.nil), .free q q, trivial⟩ ?_
          exact .ret q
        · rw [if_neg c9] at h
          refine .condF q (bn c9)<|.seq<|.reg0 q (.o (eqI q q)<|.o (asV q)<|.nil0) ?_
          by_cases c10 : (rdl a0.Steps a2.Step).Kind = 3
          · rw [if_pos c10] at h
            refine .condT q (bt c10)<|.seq ?_
            obtain ⟨g19_8, h⟩ := h
            obtain ⟨g19_10, h⟩ := h
            refine .reg1 (e1 := listEnv [(4, .ptr 1 1 4 0 0), (6, .ptr 3 1 4 0 0), (8, .ptr 8 1 4 0 0), (9, .ptr 9 1 7 0 0)]) (H1 := [⟨10, [(TGraph.lit a0)], 0, none⟩, ⟨4, [(TState.lit a1)], 0, none⟩, ⟨2, [(TMove.lit a2)], 0, none⟩, ⟨4, [GI_c0], 0, none⟩, ⟨1, (setl a1.Env ((rdl a0.Steps a2.Step).X) (rdl a1.Env ((rdl a0.Steps a2.Step).Y))).map (cInt .i64), 0, none⟩, Blk.hole, ⟨1, a1.Stack.map (cInt .i64), 0, none⟩, Blk.hole, ⟨4, [[i6 ((rdl a0.Steps a2.Step).To), .own 4 a1.Env.length, u6 a1.Marks, .own 6 a1.Stack.length]], 0, none⟩, ⟨7, [(TStep.lit (rdl a0.Steps a2.Step))], 0, none⟩]) q ?_ ?_
            · exact .drawM [(10, 117, .ptr 4 a1.Env.length 1 (Int.toNat ((rdl a0.Steps a2.Step).X)) 0), (9, 116, i6 (rdl a1.Env ((rdl a0.Steps a2.Step).Y))), (8, 115, .cptr ((cInt .i64) (rdl a1.Env ((rdl a0.Steps a2.Step).Y))) 0), (7, 114, i6 ((rdl a0.Steps a2.Step).Y)), (6, 113, .ptr 9 1 7 0 4), (5, 112, .rows (a1.Env.map (cInt .i64))), (4, 111, .ptr 1 1 4 0 1), (3, 110, i6 ((rdl a0.Steps a2.Step).X)), (2, 109, .ptr 9 1 7 0 3), (1, 108, .own 4 a1.Env.length), (0, 107, .ptr 8 1 4 0 1)] [(11, 4, ⟨1, (setl a1.Env ((rdl a0.Steps a2.Step).X) (rdl a1.Env ((rdl a0.Steps a2.Step).Y))).map (cInt .i64), 0, none⟩)] [[], [0], [], [2], [], [4], [], [6], [5, 4, 7, 6], [8, 5, 4, 7, 6], [1, 0, 3, 2, 4, 5, 6, 7, 8, 9], [10, 1, 0, 3, 2, 4, 5, 6, 7, 8, 9]] (by rfl) (by rfl) (by rfl) (by exact ⟨oP (fun _ => faP fa33_1 q) q, oP (fun _ => ldP q sz30 ag30 q) q, oP (fun _ => faP fa65_3 q) q, oP (fun _ => ldP q sz3 ag3 q) q, oP (fun _ => faP fa33_1 q) q, oP (fun _ => ldP q sz30 ag30 q) q, oP (fun _ => faP fa65_4 q) q, oP (fun _ => ldP q sz3 ag3 q) q, oP (fun _ => ixR (l := a1.Env) (lit := (cInt .i64)) sl30 q q (fun _ => q) g19_8.1 g19_8.2) q, oP (fun _ => ldC q sz2 ag2 q) q, oP (fun _ => ixO (l := a1.Env) sl30 q q q q g19_10.1 g19_10.2) q, fun S hS hD hn => .one0 0 q q (stO (l := a1.Env) (j := ((rdl a0.Steps a2.Step).X)) (cs := [i6 (rdl a1.Env ((rdl a0.Steps a2.Step).Y))]) (rdl a1.Env ((rdl a0.Steps a2.Step).Y)) sl30 q q sz2 q q g19_10.1 g19_10.2 (Nat.zero_le _) ⟨Nat.le_of_ble_eq_true q, q⟩ q) (drawE_other _ _ _ _ q) q, trivial⟩) _ (by exact ⟨.ptr q, .ptr q, .ptr q, .ptr q, trivial⟩) (by rfl)
            obtain ⟨g20_9, h⟩ := h
            obtain ⟨t20_12, g20_12, h⟩ := h
            refine .reg0 q (.o (faP fa33_2 q)<|.o (ldP q sz31 ag31 q)<|.o (faP fa65_3 q)<|.o (ldP q sz3 ag3 q)<|.o (faP fa33_2 q)<|.o (ldP q sz31 ag31 q)<|.o (faP fa65_4 q)<|.o (ldP q sz3 ag3 q)<|.o (convI un3 un68 q)<|.o (shr_ q q g20_9)<|.o (andI q q)<|.o (eqI q q)<|.c q go78 q q q (r22_mark.D g20_12)<|.o (faP fa33_2 q)<|.o (stB (cs0 := [i6 ((rdl a0.Steps a2.Step).To), .own 4 a1.Env.length, u6 a1.Marks, .own 6 a1.Stack.length]) (cs := [u6 t20_12]) (cs1 := [i6 ((rdl a0.Steps a2.Step).To), .own 4 a1.Env.length, u6 t20_12, .own 6 a1.Stack.length]) q q sz31 q ⟨Nat.le_of_ble_eq_true q, q⟩ q)<|.nil0) ?_
            refine .inBlock<|.seq<|.reg0 q (.o (ldG q sz33 ag33 q)<|.o (stB (cs0 := GI_c0) (cs := [i6 ((rdl a0.Steps a2.Step).To), .own 4 a1.Env.length, u6 t20_12, .own 6 a1.Stack.length]) (cs1 := [i6 ((rdl a0.Steps a2.Step).To), .own 4 a1.Env.length, u6 t20_12, .own 6 a1.Stack.length]) q q sz33 q ⟨Nat.le_of_ble_eq_true q, q⟩ q)<|.o (asV q)<|.nil0) ?_
            replace h := h.symm
            subst h
            refine .k [(6, .cptr [i6 ((rdl a0.Steps a2.Step).To), .rows ((setl a1.Env ((rdl a0.Steps a2.Step).X) (rdl a1.Env ((rdl a0.Steps a2.Step).Y))).map (cInt .i64)), u6 t20_12, .rows (a1.Stack.map (cInt .i64))] 0), (7, i6 0)] ⟨cFixP q q (.cons (.free q q)<|.cons (cFixO (l := (setl a1.Env ((rdl a0.Steps a2.Step).X) (rdl a1.Env ((rdl a0.Steps a2.Step).Y)))) sl30 q q (by simp only [setl, List.length_set]) q)<|.cons (.free q q)<|.cons (cFixO (l := a1.Stack) sl23 q q q q)<|.nil), .free q q, trivial⟩ ?_
            exact .ret q
          · rw [if_neg c10] at h
            refine .condF q (bn c10)<|.seq<|.reg0 q (.o (eqI q q)<|.o (asV q)<|.nil0) ?_
            by_cases c11 : (rdl a0.Steps a2.Step).Kind = 4
            · rw [if_pos c11] at h
              refine .condT q (bt c11)<|.seq ?_
              obtain ⟨g23_6, h⟩ := h
              refine .reg0 q (.o (faP fa33_1 q)<|.o (ldP q sz30 ag30 q)<|.o (faP fa65_3 q)<|.o (ldP q sz3 ag3 q)<|.o (faP fa54_1 q)<|.o (ldP q sz2 ag2 q)<|.o (ixO (l := a1.Env) sl30 q q q q g23_6.1 g23_6.2)<|.o (stO (l := a1.Env) (j := ((rdl a0.Steps a2.Step).X)) (cs := [i6 a2.Draw]) a2.Draw sl30 q q sz2 q q g23_6.1 g23_6.2 (Nat.zero_le _) ⟨Nat.le_of_ble_eq_true q, q⟩ q)<|.nil0) ?_
              obtain ⟨t24_4, g24_4, h⟩ := h
              refine .reg0 q (.o (faP fa33_2 q)<|.o (ldP q sz31 ag31 q)<|.o (faP fa65_3 q)<|.o (ldP q sz3 ag3 q)<|.c q go78 q q q (r22_mark.D g24_4)<|.o (faP fa33_2 q)<|.o (stB (cs0 := [i6 ((rdl a0.Steps a2.Step).To), .own 4 a1.Env.length, u6 a1.Marks, .own 6 a1.Stack.length]) (cs := [u6 t24_4]) (cs1 := [i6 ((rdl a0.Steps a2.Step).To), .own 4 a1.Env.length, u6 t24_4, .own 6 a1.Stack.length]) q q sz31 q ⟨Nat.le_of_ble_eq_true q, q⟩ q)<|.nil0) ?_
              refine .inBlock<|.seq<|.reg0 q (.o (ldG q sz33 ag33 q)<|.o (stB (cs0 := GI_c0) (cs := [i6 ((rdl a0.Steps a2.Step).To), .own 4 a1.Env.length, u6 t24_4, .own 6 a1.Stack.length]) (cs1 := [i6 ((rdl a0.Steps a2.Step).To), .own 4 a1.Env.length, u6 t24_4, .own 6 a1.Stack.length]) q q sz33 q ⟨Nat.le_of_ble_eq_true q, q⟩ q)<|.o (asV q)<|.nil0) ?_
              replace h := h.symm
              subst h
              refine .k [(6, .cptr [i6 ((rdl a0.Steps a2.Step).To), .rows ((setl a1.Env ((rdl a0.Steps a2.Step).X) a2.Draw).map (cInt .i64)), u6 t24_4, .rows (a1.Stack.map (cInt .i64))] 0), (7, i6 0)] ⟨cFixP q q (.cons (.free q q)<|.cons (cFixO (l := (setl a1.Env ((rdl a0.Steps a2.Step).X) a2.Draw)) sl30 q q (by simp only [setl, List.length_set]) q)<|.cons (.free q q)<|.cons (cFixO (l := a1.Stack) sl23 q q q q)<|.nil), .free q q, trivial⟩ ?_
              exact .ret q
            · rw [if_neg c11] at h
              refine .condF q (bn c11)<|.seq<|.reg0 q (.o (eqI q q)<|.o (asV q)<|.nil0) ?_
              by_cases c12 : (rdl a0.Steps a2.Step).Kind = 5
              · rw [if_pos c12] at h
                refine .condT q (bt c12) ?_
                obtain ⟨t27_4, g27_4, h⟩ := h
                refine .reg0 q (.o (faP fa33_2 q)<|.o (ldP q sz31 ag31 q)<|.o (faP fa65_3 q)<|.o (ldP q sz3 ag3 q)<|.c q go78 q q q (r22_mark.D g27_4)<|.o (faP fa33_2 q)<|.o (stB (cs0 := [i6 ((rdl a0.Steps a2.Step).To), .own 4 a1.Env.length, u6 a1.Marks, .own 6 a1.Stack.length]) (cs := [u6 t27_4]) (cs1 := [i6 ((rdl a0.Steps a2.Step).To), .own 4 a1.Env.length, u6 t27_4, .own 6 a1.Stack.length]) q q sz31 q ⟨Nat.le_of_ble_eq_true q, q⟩ q)<|.nil0) ?_
                refine .inBlock<|.seq<|.reg0 q (.o (ldG q sz33 ag33 q)<|.o (stB (cs0 := GI_c0) (cs := [i6 ((rdl a0.Steps a2.Step).To), .own 4 a1.Env.length, u6 t27_4, .own 6 a1.Stack.length]) (cs1 := [i6 ((rdl a0.Steps a2.Step).To), .own 4 a1.Env.length, u6 t27_4, .own 6 a1.Stack.length]) q q sz33 q ⟨Nat.le_of_ble_eq_true q, q⟩ q)<|.o (asV q)<|.nil0) ?_
                replace h := h.symm
                subst h
                refine .k [(6, .cptr [i6 ((rdl a0.Steps a2.Step).To), .rows (a1.Env.map (cInt .i64)), u6 t27_4, .rows (a1.Stack.map (cInt .i64))] 0), (7, i6 0)] ⟨cFixP q q (.cons (.free q q)<|.cons (cFixO (l := a1.Env) sl30 q q q q)<|.cons (.free q q)<|.cons (cFixO (l := a1.Stack) sl23 q q q q)<|.nil), .free q q, trivial⟩ ?_
                exact .ret q
              · rw [if_neg c12] at h
                refine .condF q (bn c12)<|.seq<|.reg0 q (.o (eqI q q)<|.o (asV q)<|.nil0) ?_
                by_cases c13 : (rdl a0.Steps a2.Step).Kind = 6
                · rw [if_pos c13] at h
                  refine .condT q (bt c13) ?_
                  obtain ⟨t30_4, g30_4, h⟩ := h
                  refine .reg0 q (.o (faP fa33_2 q)<|.o (ldP q sz31 ag31 q)<|.o (faP fa65_3 q)<|.o (ldP q sz3 ag3 q)<|.c q go78 q q q (r22_mark.D g30_4)<|.o (faP fa33_2 q)<|.o (stB (cs0 := [i6 ((rdl a0.Steps a2.Step).To), .own 4 a1.Env.length, u6 a1.Marks, .own 6 a1.Stack.length]) (cs := [u6 t30_4]) (cs1 := [i6 ((rdl a0.Steps a2.Step).To), .own 4 a1.Env.length, u6 t30_4, .own 6 a1.Stack.length]) q q sz31 q ⟨Nat.le_of_ble_eq_true q, q⟩ q)<|.nil0) ?_
                  refine .inBlock<|.seq<|.reg0 q (.o (ldG q sz33 ag33 q)<|.o (stB (cs0 := GI_c0) (cs := [i6 ((rdl a0.Steps a2.Step).To), .own 4 a1.Env.length, u6 t30_4, .own 6 a1.Stack.length]) (cs1 := [i6 ((rdl a0.Steps a2.Step).To), .own 4 a1.Env.length, u6 t30_4, .own 6 a1.Stack.length]) q q sz33 q ⟨Nat.le_of_ble_eq_true q, q⟩ q)<|.o (asV q)<|.nil0) ?_
                  replace h := h.symm
                  subst h
                  refine .k [(6, .cptr [i6 ((rdl a0.Steps a2.Step).To), .rows (a1.Env.map (cInt .i64)), u6 t30_4, .rows (a1.Stack.map (cInt .i64))] 0), (7, i6 0)] ⟨cFixP q q (.cons (.free q q)<|.cons (cFixO (l := a1.Env) sl30 q q q q)<|.cons (.free q q)<|.cons (cFixO (l := a1.Stack) sl23 q q q q)<|.nil), .free q q, trivial⟩ ?_
                  exact .ret q
                · rw [if_neg c13] at h
                  refine .condF q (bn c13)<|.seq<|.reg0 q (.o (eqI q q)<|.o (asV q)<|.nil0) ?_
                  by_cases c14 : (rdl a0.Steps a2.Step).Kind = 8
                  · rw [if_pos c14] at h
                    refine .condT q (bt c14)<|.seq<|.seq<|.reg0 q (.o (faP fa33_3 q)<|.o (ldP q sz23 ag23 q)<|.o (lnR (l := a1.Stack) sl23 q)<|.o (geI q q)<|.nil0) ?_
                    by_cases c15 : (a1.Stack.length : Int) ≥ 4096
                    · rw [if_pos c15] at h
                      refine .condT q (dt c15)<|.seq<|.reg0 q (.o (bldS (cs := GI_c0) ze33 pl33 q q)<|.o (stB (cs0 := GI_c0) (cs := GI_c0) (cs1 := GI_c0) q q sz33 q ⟨Nat.le_of_ble_eq_true q, q⟩ q)<|.o (asV q)<|.nil0) ?_
                      replace h := h.symm
                      subst h
                      refine .k [(6, .cptr GI_c1 0), (7, i6 2)] ⟨cFixP q q (.cons (.free q q)<|.cons (.nil)<|.cons (.free q q)<|.cons (.nil)<|.nil), .free q q, trivial⟩ ?_
                      exact .ret q
                    · rw [if_neg c15] at h
                      refine .condF q (df c15)<|.skip<|.seq ?_
                      obtain ⟨g35_6, h⟩ := h
                      obtain ⟨g35_9, h⟩ := h
                      refine .reg1 (e1 := listEnv [(4, .ptr 1 1 4 0 0), (6, .ptr 3 1 4 0 0), (8, .ptr 8 1 4 0 0), (9, .ptr 9 1 7 0 0)]) (H1 := [⟨10, [(TGraph.lit a0)], 0, none⟩, ⟨4, [(TState.lit a1)], 0, none⟩, ⟨2, [(TMove.lit a2)], 0, none⟩, ⟨4, [GI_c0], 0, none⟩, ⟨1, a1.Env.map (cInt .i64), 0, none⟩, Blk.hole, ⟨1, a1.Stack.map (cInt .i64), 0, none⟩, Blk.hole, ⟨4, [[i6 (rdl a0.Entry ((rdl a0.Sites ((rdl a0.Steps a2.Step).Site)).Proc)), .own 4 a1.Env.length, u6 a1.Marks, .own 6 a1.Stack.length]], 0, none⟩, ⟨7, [(TStep.lit (rdl a0.Steps a2.Step))], 0, none⟩]) q ?_ ?_
                      · exact .drawM [(11, 181, .ptr 8 1 4 0 0), (10, 180, i6 (rdl a0.Entry ((rdl a0.Sites ((rdl a0.Steps a2.Step).Site)).Proc))), (9, 179, .cptr ((cInt .i64) (rdl a0.Entry ((rdl a0.Sites ((rdl a0.Steps a2.Step).Site)).Proc))) 0), (8, 178, i6 ((rdl a0.Sites ((rdl a0.Steps a2.Step).Site)).Proc)), (7, 177, .cptr (TSite.lit (rdl a0.Sites ((rdl a0.Steps a2.Step).Site))) 1), (6, 176, .cptr (TSite.lit (rdl a0.Sites ((rdl a0.Steps a2.Step).Site))) 0), (5, 175, i6 ((rdl a0.Steps a2.Step).Site)), (4, 174, .ptr 9 1 7 0 6), (3, 173, .rows (a0.Sites.map TSite.cells)), (2, 172, .ptr 0 1 10 0 7), (1, 171, .rows (a0.Entry.map (cInt .i64))), (0, 170, .ptr 0 1 10 0 2)] [(12, 8, ⟨4, [[i6 (rdl a0.Entry ((rdl a0.Sites ((rdl a0.Steps a2.Step).Site)).Proc)), .own 4 a1.Env.length, u6 a1.Marks, .own 6 a1.Stack.length]], 0, none⟩)] [[], [0], [], [2], [], [4], [3, 2, 5, 4], [6, 3, 2, 5, 4], [7, 6, 3, 2, 5, 4], [1, 0, 8, 7, 6, 3, 2, 5, 4], [9, 1, 0, 8, 7, 6, 3, 2, 5, 4], [0, 1, 2, 3, 4, 5, 6, 7, 8, 9, 10], [11, 0, 1, 2, 3, 4, 5, 6, 7, 8, 9, 10]] (by rfl) (by rfl) (by rfl) (by exact ⟨oP (fun _ => faP fa29_2 q) q, oP (fun _ => ldP q sz23 ag23 q) q, oP (fun _ => faP fa29_7 q) q, oP (fun _ => ldP q sz25 ag25 q) q, oP (fun _ => faP fa65_6 q) q, oP (fun _ => ldP q sz3 ag3 q) q, oP (fun _ => ixR (l := a0.Sites) (lit := TSite.lit) sl25 q q (fun _ => q) g35_6.1 g35_6.2) q, oP (fun _ => faC fa70_1 q) q, oP (fun _ => ldC q sz3 ag3 q) q, oP (fun _ => ixR (l := a0.Entry) (lit := (cInt .i64)) sl23 q q (fun _ => q) g35_9.1 g35_9.2) q, oP (fun _ => ldC q sz3 ag3 q) q, oP (fun _ => faP fa33_0 q) q, fun S hS hD hn => .one0 0 q q (stB (cs0 := [i6 ((rdl a0.Steps a2.Step).To), .own 4 a1.Env.length, u6 a1.Marks, .own 6 a1.Stack.length]) (cs := [i6 (rdl a0.Entry ((rdl a0.Sites ((rdl a0.Steps a2.Step).Site)).Proc))]) (cs1 := [i6 (rdl a0.Entry ((rdl a0.Sites ((rdl a0.Steps a2.Step).Site)).Proc)), .own 4 a1.Env.length, u6 a1.Marks, .own 6 a1.Stack.length]) q q sz3 q ⟨Nat.le_of_ble_eq_true q, q⟩ q) (drawE_other _ _ _ _ q) q, trivial⟩) _ (by exact ⟨.ptr q, .ptr q, .ptr q, .ptr q, trivial⟩) (by rfl)
                      obtain ⟨g36_5, h⟩ := h
                      refine .room 0<|.room 0<|.reg0 q (.o (faP fa65_6 q)<|.o (ldP q sz3 ag3 q)<|.op 10 q (bldL (s := 1) (cs := [i6 ((rdl a0.Steps a2.Step).Site)]) un23 sz3 ze3 ⟨by decide, q, by decide⟩ q q q q)<|.o (faP fa33_3 q)<|.o (ldP q sz23 ag23 q)<|.o (apL (l := [(rdl a0.Steps a2.Step).Site]) a1.Stack sl23 q q q (Nat.zero_le _) q g36_5)<|.o (faP fa33_3 q)<|.o (stB (cs0 := [i6 (rdl a0.Entry ((rdl a0.Sites ((rdl a0.Steps a2.Step).Site)).Proc)), .own 4 a1.Env.length, u6 a1.Marks, .own 6 a1.Stack.length]) (cs := [.own 10 (([(rdl a0.Steps a2.Step).Site] ++ a1.Stack).length)]) (cs1 := [i6 (rdl a0.Entry ((rdl a0.Sites ((rdl a0.Steps a2.Step).Site)).Proc)), .own 4 a1.Env.length, u6 a1.Marks, .own 10 (([(rdl a0.Steps a2.Step).Site] ++ a1.Stack).length)]) q q sz23 q ⟨Nat.le_of_ble_eq_true q, q⟩ q)<|.nil0) ?_
                      refine .inBlock<|.seq<|.reg0 q (.o (ldG q sz33 ag33 q)<|.o (stB (cs0 := GI_c0) (cs := [i6 (rdl a0.Entry ((rdl a0.Sites ((rdl a0.Steps a2.Step).Site)).Proc)), .own 4 a1.Env.length, u6 a1.Marks, .own 10 (([(rdl a0.Steps a2.Step).Site] ++ a1.Stack).length)]) (cs1 := [i6 (rdl a0.Entry ((rdl a0.Sites ((rdl a0.Steps a2.Step).Site)).Proc)), .own 4 a1.Env.length, u6 a1.Marks, .own 10 (([(rdl a0.Steps a2.Step).Site] ++ a1.Stack).length)]) q q sz33 q ⟨Nat.le_of_ble_eq_true q, q⟩ q)<|.o (asV q)<|.nil0) ?_
                      replace h := h.symm
                      subst h
                      refine .k [(6, .cptr [i6 (rdl a0.Entry ((rdl a0.Sites ((rdl a0.Steps a2.Step).Site)).Proc)), .rows (a1.Env.map (cInt .i64)), u6 a1.Marks, .rows (([(rdl a0.Steps a2.Step).Site] ++ a1.Stack).map (cInt .i64))] 0), (7, i6 0)] ⟨cFixP q q (.cons (.free q q)<|.cons (cFixO (l := a1.Env) sl30 q q q q)<|.cons (.free q q)<|.cons (cFixO (l := ([(rdl a0.Steps a2.Step).Site] ++ a1.Stack)) sl23 q q q q)<|.nil), .free q q, trivial⟩ ?_
                      exact .ret q
                  · rw [if_neg c14] at h
                    refine .condF q (bn c14)<|.skip<|.inBlock<|.seq<|.reg0 q (.o (ldG q sz33 ag33 q)<|.o (stB (cs0 := GI_c0) (cs := [i6 ((rdl a0.Steps a2.Step).To), .own 4 a1.Env.length, u6 a1.Marks, .own 6 a1.Stack.length]) (cs1 := [i6 ((rdl a0.Steps a2.Step).To), .own 4 a1.Env.length, u6 a1.Marks, .own 6 a1.Stack.length]) q q sz33 q ⟨Nat.le_of_ble_eq_true q, q⟩ q)<|.o (asV q)<|.nil0) ?_
                    replace h := h.symm
                    subst h
                    refine .k [(6, .cptr [i6 ((rdl a0.Steps a2.Step).To), .rows (a1.Env.map (cInt .i64)), u6 a1.Marks, .rows (a1.Stack.map (cInt .i64))] 0), (7, i6 0)] ⟨cFixP q q (.cons (.free q q)<|.cons (cFixO (l := a1.Env) sl30 q q q q)<|.cons (.free q q)<|.cons (cFixO (l := a1.Stack) sl23 q q q q)<|.nil), .free q q, trivial⟩ ?_
                    exact .ret q
def r22_Same.b1 (a0 : TState) (a1 : TState) : Int → Rnd Int Unit Bool → Prop := fun x1 z1 => if x1 < (a0.Env.length : Int) then (((InR x1 a0.Env.length)) ∧ ((InR x1 a1.Env.length)) ∧ if (rdl a0.Env x1) = (rdl a1.Env x1) then (z1 = .next (IntKind.i64.wrap (x1 + 1))) else (z1 = .ret false)) else (z1 = .exit ())
def r22_Same.b2 (a0 : TState) (a1 : TState) : Int → Rnd Int Unit Bool → Prop := fun x2 z2 => if x2 < (a0.Stack.length : Int) then (((InR x2 a0.Stack.length)) ∧ ((InR x2 a1.Stack.length)) ∧ if (rdl a0.Stack x2) = (rdl a1.Stack x2) then (z2 = .next (IntKind.i64.wrap (x2 + 1))) else (z2 = .ret false)) else (z2 = .exit ())
def r22_Same.f (a0 : TState) (a1 : TState) (r : Bool) : Prop :=
  if ((!(a0.Node == a1.Node)) || ((!(a0.Marks == a1.Marks)) || ((!((a0.Env.length : Int) == (a1.Env.length : Int))) || ((a0.Stack.length : Int) != (a1.Stack.length : Int))))) = true then (r = false) else (∃ o1 : Fin Unit Bool, Loop (r22_Same.b1 a0 a1) 0 o1 ∧ o1.on (fun _ => ∃ o2 : Fin Unit Bool, Loop (r22_Same.b2 a0 a1) 0 o2 ∧ o2.on (fun _ => r = true) (fun r_ => r = r_)) (fun r_ => r = r_))
theorem r22_Same.D {a0 a1 r} (h : r22_Same.f a0 a1 r) : D Tryz.prog X (.callH 14 [.agg (TState.lit a0), .agg (TState.lit a1)] [] (.val (.bool r)) []) := by
  unfold r22_Same.f at h
  refine .enter 73 0 fn14 q q q<|.seq<|.room 0<|.room 0<|.reg0 q (.o (bxP (s := 4) (cs := (TState.lit a0)) q ⟨q, by decide, q⟩ q)<|.op 1 q (bxP (s := 4) (cs := (TState.lit a1)) q ⟨q, by decide, q⟩ q)<|.o (asV q)<|.nil0)<|.seq<|.seq ?_
  refine .reg0 (e1 := listEnv [(2, .ptr 0 1 4 0 0), (3, .ptr 1 1 4 0 0), (36, bo ((!(a0.Node == a1.Node)) || ((!(a0.Marks == a1.Marks)) || ((!((a0.Env.length : Int) == (a1.Env.length : Int))) || ((a0.Stack.length : Int) != (a1.Stack.length : Int))))))]) (H1 := [⟨4, [(TState.lit a0)], 0, none⟩, ⟨4, [(TState.lit a1)], 0, none⟩]) q ?_ ?_
  · refine .o (faP fa33_0 q)<|.o (ldP q sz3 ag3 q)<|.o (faP fa33_0 q)<|.o (ldP q sz3 ag3 q)<|.o (neI q q)<|.m q<|?_
    by_cases c1 : a0.Node = a1.Node
    · refine .g q (nf c1) (faP fa33_2 q)<|.g q (nf c1) (ldP q sz31 ag31 q)<|.g q (nf c1) (faP fa33_2 q)<|.g q (nf c1) (ldP q sz31 ag31 q)<|.g q (nf c1) (neI q q)<|.o (pkFV q (nf c1) q)<|.m q<|?_
      by_cases c2 : a0.Marks = a1.Marks
      · refine .g q (nf c2) (faP fa33_1 q)<|.g q (nf c2) (ldP q sz30 ag30 q)<|.g q (nf c2) (lnR (l := a0.Env) sl30 q)<|.g q (nf c2) (faP fa33_1 q)<|.g q (nf c2) (ldP q sz30 ag30 q)<|.g q (nf c2) (lnR (l := a1.Env) sl30 q)<|.g q (nf c2) (neI q q)<|.o (pkFV q (nf c2) q)<|.m q<|?_
        by_cases c3 : (a0.Env.length : Int) = (a1.Env.length : Int)
        · exact (.g q (nf c3) (faP fa33_3 q)<|.g q (nf c3) (ldP q sz23 ag23 q)<|.g q (nf c3) (lnR (l := a0.Stack) sl23 q)<|.g q (nf c3) (faP fa33_3 q)<|.g q (nf c3) (ldP q sz23 ag23 q)<|.g q (nf c3) (lnR (l := a1.Stack) sl23 q)<|.g q (nf c3) (neI q q)<|.o (pkFV q (nf c3) q)<|.nilL _ ⟨.ptr q, .ptr q, cB q (mOrF (bnotF (bt c1)) (mOrF (bnotF (bt c2)) (mOrF (bnotF (bt c3)) q))), trivial⟩)
        · exact (.n q (nt c3)<|.n q (nt c3)<|.n q (nt c3)<|.n q (nt c3)<|.n q (nt c3)<|.n q (nt c3)<|.n q (nt c3)<|.o (pkTV q (nt c3) q)<|.nilL _ ⟨.ptr q, .ptr q, cB q (mOrF (bnotF (bt c1)) (mOrF (bnotF (bt c2)) (mOrT (bnotT (bn c3))))), trivial⟩)
      · exact (.n q (nt c2)<|.n q (nt c2)<|.n q (nt c2)<|.n q (nt c2)<|.n q (nt c2)<|.n q (nt c2)<|.n q (nt c2)<|.o (pkTV q (nt c2) q)<|.m q<|.n q q<|.n q q<|.n q q<|.n q q<|.n q q<|.n q q<|.n q q<|.o (pkTV q q q)<|.nilL _ ⟨.ptr q, .ptr q, cB q (mOrF (bnotF (bt c1)) (mOrT (bnotT (bn c2)))), trivial⟩)
    · exact (.n q (nt c1)<|.n q (nt c1)<|.n q (nt c1)<|.n q (nt c1)<|.n q (nt c1)<|.o (pkTV q (nt c1) q)<|.m q<|.n q q<|.n q q<|.n q q<|.n q q<|.n q q<|.n q q<|.n q q<|.o (pkTV q q q)<|.m q<|.n q q<|.n q q<|.n q q<|.n q q<|.n q q<|.n q q<|.n q q<|.o (pkTV q q q)<|.nilL _ ⟨.ptr q, .ptr q, cB q (mOrT (bnotT (bn c1))), trivial⟩)
  by_cases c4 : ((!(a0.Node == a1.Node)) || ((!(a0.Marks == a1.Marks)) || ((!((a0.Env.length : Int) == (a1.Env.length : Int))) || ((a0.Stack.length : Int) != (a1.Stack.length : Int))))) = true
  · rw [if_pos c4] at h
    refine .condT q c4<|.seq<|.reg0 q (.o (asV q)<|.nil0) ?_
    replace h := h.symm
    subst h
    refine .kf [(4, bo false)] q q ?_
    exact .ret q
  · rw [if_neg c4] at h
    refine .condF q (nb c4)<|.skip<|.seq<|.seq<|.reg0 q (.o (asV q)<|.nil0)<|.block<|.keepL [0, 1] [(2, .ptr 0 1 4 0 0), (3, .ptr 1 1 4 0 0), (5, i6 0)] [⟨4, [(TState.lit a0)], 0, none⟩, ⟨4, [(TState.lit a1)], 0, none⟩] (by decide) (by decide) ⟨.ptr q, .ptr q, .free q q, trivial⟩ ⟨⟨_, q, bcBox (all2_free q)⟩, ⟨_, q, bcBox (all2_free q)⟩, trivial⟩ ?_
    obtain ⟨o1, hL1, h⟩ := h
    refine .loopB (r22_Same.b1 a0 a1) (fun x1 => listEnv [(2, .ptr 0 1 4 0 0), (3, .ptr 1 1 4 0 0), (5, i6 x1)]) (fun x1 => [⟨4, [(TState.lit a0)], 0, none⟩, ⟨4, [(TState.lit a1)], 0, none⟩]) (fun _ => listEnv [(2, .ptr 0 1 4 0 0), (3, .ptr 1 1 4 0 0)]) (fun _ => [⟨4, [(TState.lit a0)], 0, none⟩, ⟨4, [(TState.lit a1)], 0, none⟩]) hL1 (fun r_ => r = r_) ?_ ?_ ?_
    · rintro ⟨⟩ rfl
      try dsimp only [Fin.on] at h
      refine .seq<|.seq<|.reg0 q (.o (asV q)<|.nil0)<|.block<|.keepL [0, 1] [(2, .ptr 0 1 4 0 0), (3, .ptr 1 1 4 0 0), (6, i6 0)] [⟨4, [(TState.lit a0)], 0, none⟩, ⟨4, [(TState.lit a1)], 0, none⟩] (by decide) (by decide) ⟨.ptr q, .ptr q, .free q q, trivial⟩ ⟨⟨_, q, bcBox (all2_free q)⟩, ⟨_, q, bcBox (all2_free q)⟩, trivial⟩ ?_
      obtain ⟨o2, hL2, h⟩ := h
      refine .loopB (r22_Same.b2 a0 a1) (fun x2 => listEnv [(2, .ptr 0 1 4 0 0), (3, .ptr 1 1 4 0 0), (6, i6 x2)]) (fun x2 => [⟨4, [(TState.lit a0)], 0, none⟩, ⟨4, [(TState.lit a1)], 0, none⟩]) (fun _ => listEnv []) (fun _ => []) hL2 (fun r_ => r = r_) ?_ ?_ ?_
      · rintro ⟨⟩ rfl
        try dsimp only [Fin.on] at h
        refine .seq<|.reg0 q (.o (asV q)<|.nil0) ?_
        replace h := h.symm
        subst h
        refine .kf [(4, bo true)] q q ?_
        exact .ret q
      · rintro r_ rfl
        exact h
      · rintro x2 z2 h hn2 hx2 hr2
        dsimp only [r22_Same.b2] at h
        refine .seq<|.seq<|.reg0 q (.o (mvV q)<|.o (faP fa33_3 q)<|.o (ldP q sz23 ag23 q)<|.o (lnR (l := a0.Stack) sl23 q)<|.o (ltI q q)<|.nil0) ?_
        by_cases c15 : x2 < (a0.Stack.length : Int)
        · rw [if_pos c15] at h
          refine .condT q (dt c15)<|.skip<|.seq<|.block<|.seq ?_
          obtain ⟨g27_3, h⟩ := h
          obtain ⟨g27_8, h⟩ := h
          refine .reg1 (e1 := listEnv [(2, .ptr 0 1 4 0 0), (3, .ptr 1 1 4 0 0), (6, i6 x2), (72, bo ((rdl a0.Stack x2) != (rdl a1.Stack x2)))]) (H1 := [⟨4, [(TState.lit a0)], 0, none⟩, ⟨4, [(TState.lit a1)], 0, none⟩]) q ?_ ?_
          · exact .drawM [(10, 72, bo ((rdl a0.Stack x2) != (rdl a1.Stack x2))), (9, 71, i6 (rdl a1.Stack x2)), (8, 70, .cptr ((cInt .i64) (rdl a1.Stack x2)) 0), (7, 69, i6 x2), (6, 68, .rows (a1.Stack.map (cInt .i64))), (5, 67, .ptr 1 1 4 0 3), (4, 66, i6 (rdl a0.Stack x2)), (3, 65, .cptr ((cInt .i64) (rdl a0.Stack x2)) 0), (2, 64, i6 x2), (1, 63, .rows (a0.Stack.map (cInt .i64))), (0, 62, .ptr 0 1 4 0 3)] [] [[], [0], [], [1, 0, 2], [3, 1, 0, 2], [], [5], [], [6, 5, 7], [8, 6, 5, 7], [4, 3, 1, 0, 2, 9, 8, 6, 5, 7]] (by rfl) (by rfl) (by rfl) (by exact ⟨oP (fun _ => faP fa33_3 q) q, oP (fun _ => ldP q sz23 ag23 q) q, oP (fun _ => mvV q) q, oP (fun _ => ixR (l := a0.Stack) (lit := (cInt .i64)) sl23 q q (fun _ => q) g27_3.1 g27_3.2) q, oP (fun _ => ldC q sz3 ag3 q) q, oP (fun _ => faP fa33_3 q) q, oP (fun _ => ldP q sz23 ag23 q) q, oP (fun _ => mvV q) q, oP (fun _ => ixR (l := a1.Stack) (lit := (cInt .i64)) sl23 q q (fun _ => q) g27_8.1 g27_8.2) q, oP (fun _ => ldC q sz3 ag3 q) q, oP (fun _ => neI q q) q, trivial⟩) _ (by exact ⟨.ptr q, .ptr q, .free q q, .free q q, trivial⟩) (by rfl)
          by_cases c16 : (rdl a0.Stack x2) = (rdl a1.Stack x2)
          · rw [if_pos c16] at h
            refine .condF q (nf c16)<|.skip<|.inBlock<|.reg0 q (.o (mvV q)<|.o (addI q q)<|.o (asV q)<|.nil0)<|.keepL [0, 1] [(2, .ptr 0 1 4 0 0), (3, .ptr 1 1 4 0 0), (6, i6 (IntKind.i64.wrap (x2 + 1)))] [⟨4, [(TState.lit a0)], 0, none⟩, ⟨4, [(TState.lit a1)], 0, none⟩] (by decide) (by decide) ⟨.ptr q, .ptr q, .free q q, trivial⟩ ⟨⟨_, q, bcBox (all2_free q)⟩, ⟨_, q, bcBox (all2_free q)⟩, trivial⟩ ?_
            exact hn2 _ h
          · rw [if_neg c16] at h
            refine .condT q (nt c16)<|.seq<|.reg0 q (.o (asV q)<|.nil0) ?_
            have q6 := hr2 _ h
            replace q6 := q6.symm
            subst q6
            refine .kf [(4, bo false)] q q ?_
            exact .ret q
        · rw [if_neg c15] at h
          refine .condF q (df c15)<|.exit q<|.keepL [] [] [] (by decide) (by decide) trivial trivial ?_
          exact hx2 _ h
    · rintro r_ rfl
      exact h
    · rintro x1 z1 h hn1 hx1 hr1
      dsimp only [r22_Same.b1] at h
      refine .seq<|.seq<|.reg0 q (.o (mvV q)<|.o (faP fa33_1 q)<|.o (ldP q sz30 ag30 q)<|.o (lnR (l := a0.Env) sl30 q)<|.o (ltI q q)<|.nil0) ?_
      by_cases c9 : x1 < (a0.Env.length : Int)
      · rw [if_pos c9] at h
        refine .condT q (dt c9)<|.skip<|.seq<|.block<|.seq ?_
        obtain ⟨g14_3, h⟩ := h
        obtain ⟨g14_8, h⟩ := h
        refine .reg1 (e1 := listEnv [(2, .ptr 0 1 4 0 0), (3, .ptr 1 1 4 0 0), (5, i6 x1), (54, bo ((rdl a0.Env x1) != (rdl a1.Env x1)))]) (H1 := [⟨4, [(TState.lit a0)], 0, none⟩, ⟨4, [(TState.lit a1)], 0, none⟩]) q ?_ ?_
        · exact .drawM [(10, 54, bo ((rdl a0.Env x1) != (rdl a1.Env x1))), (9, 53, i6 (rdl a1.Env x1)), (8, 52, .cptr ((cInt .i64) (rdl a1.Env x1)) 0), (7, 51, i6 x1), (6, 50, .rows (a1.Env.map (cInt .i64))), (5, 49, .ptr 1 1 4 0 1), (4, 48, i6 (rdl a0.Env x1)), (3, 47, .cptr ((cInt .i64) (rdl a0.Env x1)) 0), (2, 46, i6 x1), (1, 45, .rows (a0.Env.map (cInt .i64))), (0, 44, .ptr 0 1 4 0 1)] [] [[], [0], [], [1, 0, 2], [3, 1, 0, 2], [], [5], [], [6, 5, 7], [8, 6, 5, 7], [4, 3, 1, 0, 2, 9, 8, 6, 5, 7]] (by rfl) (by rfl) (by rfl) (by exact ⟨oP (fun _ => faP fa33_1 q) q, oP (fun _ => ldP q sz30 ag30 q) q, oP (fun _ => mvV q) q, oP (fun _ => ixR (l := a0.Env) (lit := (cInt .i64)) sl30 q q (fun _ => q) g14_3.1 g14_3.2) q, oP (fun _ => ldC q sz2 ag2 q) q, oP (fun _ => faP fa33_1 q) q, oP (fun _ => ldP q sz30 ag30 q) q, oP (fun _ => mvV q) q, oP (fun _ => ixR (l := a1.Env) (lit := (cInt .i64)) sl30 q q (fun _ => q) g14_8.1 g14_8.2) q, oP (fun _ => ldC q sz2 ag2 q) q, oP (fun _ => neI q q) q, trivial⟩) _ (by exact ⟨.ptr q, .ptr q, .free q q, .free q q, trivial⟩) (by rfl)
        by_cases c10 : (rdl a0.Env x1) = (rdl a1.Env x1)
        · rw [if_pos c10] at h
          refine .condF q (nf c10)<|.skip<|.inBlock<|.reg0 q (.o (mvV q)<|.o (addI q q)<|.o (asV q)<|.nil0)<|.keepL [0, 1] [(2, .ptr 0 1 4 0 0), (3, .ptr 1 1 4 0 0), (5, i6 (IntKind.i64.wrap (x1 + 1)))] [⟨4, [(TState.lit a0)], 0, none⟩, ⟨4, [(TState.lit a1)], 0, none⟩] (by decide) (by decide) ⟨.ptr q, .ptr q, .free q q, trivial⟩ ⟨⟨_, q, bcBox (all2_free q)⟩, ⟨_, q, bcBox (all2_free q)⟩, trivial⟩ ?_
          exact hn1 _ h
        · rw [if_neg c10] at h
          refine .condT q (nt c10)<|.seq<|.reg0 q (.o (asV q)<|.nil0) ?_
          have q3 := hr1 _ h
          replace q3 := q3.symm
          subst q3
          refine .kf [(4, bo false)] q q ?_
          exact .ret q
      · rw [if_neg c9] at h
        refine .condF q (df c9)<|.exit q<|.keepL [0, 1] [(2, .ptr 0 1 4 0 0), (3, .ptr 1 1 4 0 0)] [⟨4, [(TState.lit a0)], 0, none⟩, ⟨4, [(TState.lit a1)], 0, none⟩] (by decide) (by decide) ⟨.ptr q, .ptr q, trivial⟩ ⟨⟨_, q, bcBox (all2_free q)⟩, ⟨_, q, bcBox (all2_free q)⟩, trivial⟩ ?_
        exact hx1 _ h
def r22_In.b1 (a0 : List TState) (a1 : TState) : Int → Rnd Int Unit Bool → Prop := fun x1 z1 => if x1 < (a0.length : Int) then (((InR x1 a0.length)) ∧ ∃ t12_5 : Bool, (r22_Same.f (rdl a0 x1) a1 t12_5) ∧ if t12_5 = true then (z1 = .ret true) else (z1 = .next (IntKind.i64.wrap (x1 + 1)))) else (z1 = .exit ())
def r22_In.f (a0 : List TState) (a1 : TState) (r : Bool) : Prop :=
  ∃ o1 : Fin Unit Bool, Loop (r22_In.b1 a0 a1) 0 o1 ∧ o1.on (fun _ => r = false) (fun r_ => r = r_)
theorem r22_In.D {a0 a1 r} (h : r22_In.f a0 a1 r) : D Tryz.prog X (.callH 23 [.rows (a0.map TState.cells), .agg (TState.lit a1)] [] (.val (.bool r)) []) := by
  unfold r22_In.f at h
  refine .enter 18 0 fn23 q q q<|.seq<|.room 0<|.reg0 q (.o (bxP (s := 4) (cs := (TState.lit a1)) q ⟨q, by decide, q⟩ q)<|.o (asV q)<|.nil0)<|.seq<|.seq<|.reg0 q (.o (asV q)<|.nil0)<|.block<|.keepL [0] [(0, .rows (a0.map TState.cells)), (3, .ptr 0 1 4 0 0), (5, i6 0)] [⟨4, [(TState.lit a1)], 0, none⟩] (by decide) (by decide) ⟨.free q q, .ptr q, .free q q, trivial⟩ ⟨⟨_, q, bcBox (all2_free q)⟩, trivial⟩ ?_
  obtain ⟨o1, hL1, h⟩ := h
  refine .loopB (r22_In.b1 a0 a1) (fun x1 => listEnv [(0, .rows (a0.map TState.cells)), (3, .ptr 0 1 4 0 0), (5, i6 x1)]) (fun x1 => [⟨4, [(TState.lit a1)], 0, none⟩]) (fun _ => listEnv []) (fun _ => []) hL1 (fun r_ => r = r_) ?_ ?_ ?_
  · rintro ⟨⟩ rfl
    try dsimp only [Fin.on] at h
    refine .seq<|.reg0 q (.o (asV q)<|.nil0) ?_
    replace h := h.symm
    subst h
    refine .kf [(4, bo false)] q q ?_
    exact .ret q
  · rintro r_ rfl
    exact h
  · rintro x1 z1 h hn1 hx1 hr1
    dsimp only [r22_In.b1] at h
    refine .seq<|.seq<|.reg0 q (.o (mvV q)<|.o (mvR q)<|.o (lnR (l := a0) sl47 q)<|.o (ltI q q)<|.nil0) ?_
    by_cases c5 : x1 < (a0.length : Int)
    · rw [if_pos c5] at h
      refine .condT q (dt c5)<|.skip<|.seq<|.block<|.seq ?_
      obtain ⟨g12_2, h⟩ := h
      obtain ⟨t12_5, g12_5, h⟩ := h
      refine .reg1 (e1 := listEnv [(0, .rows (a0.map TState.cells)), (3, .ptr 0 1 4 0 0), (5, i6 x1), (17, bo t12_5)]) (H1 := [⟨4, [(TState.lit a1)], 0, none⟩]) q ?_ ?_
      · exact .drawM [(5, 17, bo t12_5), (4, 16, .agg (TState.lit a1)), (3, 15, .agg (TState.lit (rdl a0 x1))), (2, 14, .cptr (TState.lit (rdl a0 x1)) 0), (1, 13, i6 x1), (0, 12, .rows (a0.map TState.cells))] [] [[], [], [0, 1], [2, 0, 1], [], [3, 2, 0, 1, 4]] (by rfl) (by rfl) (by rfl) (by exact ⟨oP (fun _ => mvR q) q, oP (fun _ => mvV q) q, oP (fun _ => ixR (l := a0) (lit := TState.lit) sl47 q q (fun _ => q) g12_2.1 g12_2.2) q, oP (fun _ => ldCG q sz33 ag33 q) q, oP (fun _ => ldG q sz33 ag33 q) q, fun S hS hD hn => .oneI hS hD hn q q (callee_of q go14 q) (.pure q q (r22_Same.D g12_5)) q q q, trivial⟩) _ (by exact ⟨.free q q, .ptr q, .free q q, .free q q, trivial⟩) (by rfl)
      by_cases c6 : t12_5 = true
      · rw [if_pos c6] at h
        refine .condT q c6<|.seq<|.reg0 q (.o (asV q)<|.nil0) ?_
        have q3 := hr1 _ h
        replace q3 := q3.symm
        subst q3
        refine .kf [(4, bo true)] q q ?_
        exact .ret q
      · rw [if_neg c6] at h
        refine .condF q (nb c6)<|.skip<|.inBlock<|.reg0 q (.o (mvV q)<|.o (addI q q)<|.o (asV q)<|.nil0)<|.keepL [0] [(0, .rows (a0.map TState.cells)), (3, .ptr 0 1 4 0 0), (5, i6 (IntKind.i64.wrap (x1 + 1)))] [⟨4, [(TState.lit a1)], 0, none⟩] (by decide) (by decide) ⟨.free q q, .ptr q, .free q q, trivial⟩ ⟨⟨_, q, bcBox (all2_free q)⟩, trivial⟩ ?_
        exact hn1 _ h
    · rw [if_neg c5] at h
      refine .condF q (df c5)<|.exit q<|.keepL [] [] [] (by decide) (by decide) trivial trivial ?_
      exact hx1 _ h
def r22_Levels.j1 (x28 : Int) : ((List TState) × (List Int)) → (Rnd (((List TState) × (List Int) × Int)) (((List TState) × (List Int))) ((List TState) × (List Int) × Int)) → Prop := fun (x33, x34) z2 => z2 = .next (x33, x34, (IntKind.i64.wrap (x28 + 1)))
def r22_Levels.b2 (a0 : TGraph) (a4 : Int) (x12 : Int) (t84_6 : (List TMove)) : ((List TState) × (List Int) × Int) → Rnd (((List TState) × (List Int) × Int)) (((List TState) × (List Int))) ((List TState) × (List Int) × Int) → Prop := fun (x26, x27, x28) z2 => if x28 < (t84_6.length : Int) then (((InR x12 x26.length)) ∧ ((InR x28 t84_6.length)) ∧ ∃ t127_9 : TState × Int, (r22_do.f a0 (rdl x26 x12) (rdl t84_6 x28) t127_9) ∧ if t127_9.2 = 0 then (∃ t129_2 : Bool, (r22_In.f x26 t127_9.1 t129_2) ∧ if t129_2 = true then (r22_Levels.j1 x28 (x26, x27) z2) else (if (x26.length : Int) ≥ a4 then (z2 = .ret ([], [], 3)) else (((Fits (x26.length + 1) 64)) ∧ ((InR x12 x27.length)) ∧ ((Fits (x27.length + 1) 8)) ∧ r22_Levels.j1 x28 ((x26 ++ [t127_9.1]), (x27 ++ [(IntKind.i64.wrap ((rdl x27 x12) + 1))])) z2))) else (z2 = .ret ([], [], t127_9.2))) else (z2 = .exit (x26, x27))
def r22_Levels.b1 (a0 : TGraph) (a2 : List Int) (a3 : Int) (a4 : Int) : ((List TState) × (List Int) × Int) → Rnd (((List TState) × (List Int) × Int)) (((List TState) × (List Int))) ((List TState) × (List Int) × Int) → Prop := fun (x10, x11, x12) z1 => if x12 < (x10.length : Int) then (((InR x12 x11.length)) ∧ if (rdl x11 x12) ≥ a3 then (z1 = .exit (x10, x11)) else (((InR x12 x10.length)) ∧ ∃ t84_6 : (List TMove), (r22_next.f a0 (rdl x10 x12) a2 t84_6) ∧ ∃ o2 : Fin (((List TState) × (List Int))) ((List TState) × (List Int) × Int), Loop (r22_Levels.b2 a0 a4 x12 t84_6) (x10, x11, 0) o2 ∧ o2.on (fun (x31, x32) => z1 = .next (x31, x32, (IntKind.i64.wrap (x12 + 1)))) (fun r_ => z1 = .ret r_))) else (z1 = .exit (x10, x11))
def r22_Levels.f (a0 : TGraph) (a1 : TState) (a2 : List Int) (a3 : Int) (a4 : Int) (r : (List TState) × (List Int) × Int) : Prop :=
  ∃ t2_2 : Int, (r22_Check.f a0 a1 t2_2) ∧ if t2_2 = 0 then (if ((decide (a3 < 0)) || ((decide (a3 > 100)) || ((decide (a4 < 1)) || ((decide (a4 > 20000)) || (decide ((a2.length : Int) > 8)))))) = true then (r = ([], [], 1)) else (∃ o1 : Fin (((List TState) × (List Int))) ((List TState) × (List Int) × Int), Loop (r22_Levels.b1 a0 a2 a3 a4) ([a1], [0], 0) o1 ∧ o1.on (fun (x22, x23) => r = (x22, x23, 0)) (fun r_ => r = r_))) else (r = ([], [], t2_2))
theorem r22_Levels.D {a0 a1 a2 a3 a4 r} (h : r22_Levels.f a0 a1 a2 a3 a4 r) : D Tryz.prog X (.callH 38 [.agg (TGraph.lit a0), .agg (TState.lit a1), .rows (a2.map (cInt .i64)), .val (.int .i64 a3), .val (.int .i64 a4)] [] (.tuple [.rows (r.1.map TState.cells), .rows (r.2.1.map (cInt .i64)), .val (.int .i64 r.2.2)]) []) := by
  unfold r22_Levels.f at h
  refine .enter 111 0 fn38 q q q<|.seq<|.room 0<|.room 0<|.reg0 q (.o (bxP (s := 10) (cs := (TGraph.lit a0)) q ⟨q, by decide, q⟩ q)<|.op 1 q (bxP (s := 4) (cs := (TState.lit a1)) q ⟨q, by decide, q⟩ q)<|.o (asV q)<|.o (asV q)<|.o (asV q)<|.nil0)<|.seq ?_
  obtain ⟨t2_2, g2_2, h⟩ := h
  refine .reg0 q (.o (ldG q sz29 ag29 q)<|.o (ldG q sz33 ag33 q)<|.c q go17 q q q (r22_Check.D g2_2)<|.a q<|.nil0)<|.seq<|.seq<|.reg0 q (.o (mvV q)<|.o (neI q q)<|.nil0) ?_
  by_cases c1 : t2_2 = 0
  · rw [if_pos c1] at h
    refine .condF q (nf c1)<|.skip<|.seq<|.seq ?_
    refine .reg0 (e1 := listEnv [(2, .rows (a2.map (cInt .i64))), (3, i6 a3), (4, i6 a4), (5, .ptr 0 1 10 0 0), (6, .ptr 1 1 4 0 0), (45, bo ((decide (a3 < 0)) || ((decide (a3 > 100)) || ((decide (a4 < 1)) || ((decide (a4 > 20000)) || (decide ((a2.length : Int) > 8)))))))]) (H1 := [⟨10, [(TGraph.lit a0)], 0, none⟩, ⟨4, [(TState.lit a1)], 0, none⟩]) q ?_ ?_
    · refine .m q<|.o (ltI q q)<|.m q<|?_
      by_cases c2 : a3 < 0
      · exact (.n q (dt c2)<|.n q (dt c2)<|.o (pkTV q (dt c2) q)<|.m q<|.n q q<|.n q q<|.o (pkTV q q q)<|.m q<|.n q q<|.n q q<|.o (pkTV q q q)<|.m q<|.n q q<|.n q q<|.n q q<|.o (pkTV q q q)<|.nilL _ ⟨.free q q, .free q q, .free q q, .ptr q, .ptr q, cB q (mOrT (dt c2)), trivial⟩)
      · refine .g q (df c2) (mvV q)<|.g q (df c2) (gtI q q)<|.o (pkFV q (df c2) q)<|.m q<|?_
        by_cases c3 : a3 > 100
        · exact (.n q (dt c3)<|.n q (dt c3)<|.o (pkTV q (dt c3) q)<|.m q<|.n q q<|.n q q<|.o (pkTV q q q)<|.m q<|.n q q<|.n q q<|.n q q<|.o (pkTV q q q)<|.nilL _ ⟨.free q q, .free q q, .free q q, .ptr q, .ptr q, cB q (mOrF (df c2) (mOrT (dt c3))), trivial⟩)
        · refine .g q (df c3) (mvV q)<|.g q (df c3) (ltI q q)<|.o (pkFV q (df c3) q)<|.m q<|?_
          by_cases c4 : a4 < 1
          · exact (.n q (dt c4)<|.n q (dt c4)<|.o (pkTV q (dt c4) q)<|.m q<|.n q q<|.n q q<|.n q q<|.o (pkTV q q q)<|.nilL _ ⟨.free q q, .free q q, .free q q, .ptr q, .ptr q, cB q (mOrF (df c2) (mOrF (df c3) (mOrT (dt c4)))), trivial⟩)
          · refine .g q (df c4) (mvV q)<|.g q (df c4) (gtI q q)<|.o (pkFV q (df c4) q)<|.m q<|?_
            by_cases c5 : a4 > 20000
            · exact (.n q (dt c5)<|.n q (dt c5)<|.n q (dt c5)<|.o (pkTV q (dt c5) q)<|.nilL _ ⟨.free q q, .free q q, .free q q, .ptr q, .ptr q, cB q (mOrF (df c2) (mOrF (df c3) (mOrF (df c4) (mOrT (dt c5))))), trivial⟩)
            · exact (.g q (df c5) (mvR q)<|.g q (df c5) (lnR (l := a2) sl30 q)<|.g q (df c5) (gtI q q)<|.o (pkFV q (df c5) q)<|.nilL _ ⟨.free q q, .free q q, .free q q, .ptr q, .ptr q, cB q (mOrF (df c2) (mOrF (df c3) (mOrF (df c4) (mOrF (df c5) q)))), trivial⟩)
    by_cases c6 : ((decide (a3 < 0)) || ((decide (a3 > 100)) || ((decide (a4 < 1)) || ((decide (a4 > 20000)) || (decide ((a2.length : Int) > 8)))))) = true
    · rw [if_pos c6] at h
      refine .condT q c6<|.seq<|.reg0 q (.o (asV q)<|.o (asV q)<|.o (asV q)<|.nil0) ?_
      replace h := h.symm
      subst h
      refine .k [(10, .rows (([] : List TState).map TState.cells)), (11, .rows (([] : List Int).map (cInt .i64))), (12, i6 1)] ⟨.nil, .nil, .free q q, trivial⟩ ?_
      exact .ret q
    · rw [if_neg c6] at h
      refine .condF q (nb c6)<|.skip<|.seq<|.room 0<|.room 0<|.reg0 q (.o (ldG q sz33 ag33 q)<|.op 2 q (bldL (s := 4) (cs := [i6 a1.Node, .rows (a1.Env.map (cInt .i64)), u6 a1.Marks, .rows (a1.Stack.map (cInt .i64))]) un47 sz33 ze33 ⟨by decide, q, by decide⟩ q q q q)<|.op 3 q (bldL (s := 1) (cs := [i6 0]) un23 sz3 ze3 ⟨by decide, q, by decide⟩ q q q q)<|.o (asO q)<|.o (asO q)<|.nil0) ?_
      refine .seq<|.seq<|.reg0 q (.o (asV q)<|.nil0)<|.block<|.keepL [0, 2, 3] [(2, .rows (a2.map (cInt .i64))), (3, i6 a3), (4, i6 a4), (5, .ptr 0 1 10 0 0), (14, .own 1 ([a1].length)), (15, .own 2 ([0].length)), (16, i6 0)] [⟨10, [(TGraph.lit a0)], 0, none⟩, ⟨4, [a1].map TState.cells, 0, none⟩, ⟨1, [0].map (cInt .i64), 0, none⟩] (by decide) (by decide) ⟨.free q q, .free q q, .free q q, .ptr q, .own q, .own q, .free q q, trivial⟩ ⟨⟨_, q, bcBox (all2_free q)⟩, ⟨_, q, bcRow (l := [a1]) sl47 (Nat.le_refl _) q⟩, ⟨_, q, bcRow (l := [0]) sl23 (Nat.le_refl _) q⟩, trivial⟩ ?_
      obtain ⟨o1, hL1, h⟩ := h
      refine .loopB (r22_Levels.b1 a0 a2 a3 a4) (fun (x10, x11, x12) => listEnv [(2, .rows (a2.map (cInt .i64))), (3, i6 a3), (4, i6 a4), (5, .ptr 0 1 10 0 0), (14, .own 1 x10.length), (15, .own 2 x11.length), (16, i6 x12)]) (fun (x10, x11, x12) => [⟨10, [(TGraph.lit a0)], 0, none⟩, ⟨4, x10.map TState.cells, 0, none⟩, ⟨1, x11.map (cInt .i64), 0, none⟩]) (fun (x22, x23) => listEnv [(14, .own 0 x22.length), (15, .own 1 x23.length)]) (fun (x22, x23) => [⟨4, x22.map TState.cells, 0, none⟩, ⟨1, x23.map (cInt .i64), 0, none⟩]) hL1 (fun r_ => r = r_) ?_ ?_ ?_
      · rintro ⟨x22, x23⟩ rfl
        try dsimp only [Fin.on] at h
        refine .seq<|.reg0 q (.o (mvO q)<|.o (mvO q)<|.o (asO q)<|.o (asO q)<|.o (asV q)<|.nil0) ?_
        replace h := h.symm
        subst h
        refine .k [(10, .rows (x22.map TState.cells)), (11, .rows (x23.map (cInt .i64))), (12, i6 0)] ⟨cFixO (l := x22) sl47 q q q q, cFixO (l := x23) sl23 q q q q, .free q q, trivial⟩ ?_
        exact .ret q
      · rintro r_ rfl
        exact h
      · rintro ⟨x10, x11, x12⟩ z1 h hn1 hx1 hr1
        dsimp only [r22_Levels.b1] at h
        refine .seq<|.seq<|.reg0 q (.o (mvV q)<|.o (mvO q)<|.o (lnO (l := x10) sl47 q q q)<|.o (ltI q q)<|.nil0) ?_
        by_cases c39 : x12 < (x10.length : Int)
        · rw [if_pos c39] at h
          refine .condT q (dt c39)<|.skip<|.seq<|.block<|.seq<|.seq ?_
          obtain ⟨g83_2, h⟩ := h
          refine .reg0 q (.o (mvO q)<|.m q<|.o (ixO (l := x11) sl23 q q q q g83_2.1 g83_2.2)<|.o (ldO (l := x11) (j := x12) sl23 q sz3 ag3 q q (fun _ => q) g83_2.1 g83_2.2 (by decide) q)<|.m q<|.o (geI q q)<|.nil0) ?_
          by_cases c40 : (rdl x11 x12) ≥ a3
          · rw [if_pos c40] at h
            refine .condT q (dt c40)<|.exit q<|.keepL [1, 2] [(14, .own 0 x10.length), (15, .own 1 x11.length)] [⟨4, x10.map TState.cells, 0, none⟩, ⟨1, x11.map (cInt .i64), 0, none⟩] (by decide) (by decide) ⟨.own q, .own q, trivial⟩ ⟨⟨_, q, bcRow (l := x10) sl47 (Nat.le_refl _) q⟩, ⟨_, q, bcRow (l := x11) sl23 (Nat.le_refl _) q⟩, trivial⟩ ?_
            exact hx1 _ h
          · rw [if_neg c40] at h
            refine .condF q (df c40)<|.skip<|.seq ?_
            obtain ⟨g84_3, h⟩ := h
            obtain ⟨t84_6, g84_6, h⟩ := h
            refine .reg1 (e1 := listEnv [(2, .rows (a2.map (cInt .i64))), (3, i6 a3), (4, i6 a4), (5, .ptr 0 1 10 0 0), (14, .own 1 x10.length), (15, .own 2 x11.length), (16, i6 x12), (17, .rows (t84_6.map TMove.cells))]) (H1 := [⟨10, [(TGraph.lit a0)], 0, none⟩, ⟨4, x10.map TState.cells, 0, none⟩, ⟨1, x11.map (cInt .i64), 0, none⟩]) q ?_ ?_
            · exact .drawM [(7, 17, .rows (t84_6.map TMove.cells)), (6, 67, .rows (t84_6.map TMove.cells)), (5, 66, .rows (a2.map (cInt .i64))), (4, 65, .agg (TState.lit (rdl x10 x12))), (3, 64, .ptr 1 x10.length 4 (Int.toNat x12) 0), (2, 63, i6 x12), (1, 62, .own 1 x10.length), (0, 61, .agg (TGraph.lit a0))] [] [[], [], [], [1, 2], [3, 1, 2], [], [0, 4, 3, 1, 2, 5], [6, 0, 4, 3, 1, 2, 5]] (by rfl) (by rfl) (by rfl) (by exact ⟨oP (fun _ => ldG q sz29 ag29 q) q, oP (fun _ => mvO q) q, oP (fun _ => mvV q) q, oP (fun _ => ixO (l := x10) sl47 q q q q g84_3.1 g84_3.2) q, oP (fun _ => ldOG (l := x10) (j := x12) sl47 q sz33 ag33 q q (fun _ => q) g84_3.1 g84_3.2 (by decide) q) q, oP (fun _ => mvR q) q, fun S hS hD hn => .oneI hS hD hn q q (callee_of q go55 q) (.pure q q (r22_next.D g84_6)) q q q, oP (fun _ => asR q) q, trivial⟩) _ (by exact ⟨.free q q, .free q q, .free q q, .ptr q, .own q, .own q, .free q q, .free q q, trivial⟩) (by rfl)
            refine .seq<|.reg0 q (.o (asV q)<|.nil0)<|.block<|.keepL [0, 1, 2] [(2, .rows (a2.map (cInt .i64))), (3, i6 a3), (4, i6 a4), (5, .ptr 0 1 10 0 0), (14, .own 1 x10.length), (15, .own 2 x11.length), (16, i6 x12), (17, .rows (t84_6.map TMove.cells)), (18, i6 0)] [⟨10, [(TGraph.lit a0)], 0, none⟩, ⟨4, x10.map TState.cells, 0, none⟩, ⟨1, x11.map (cInt .i64), 0, none⟩] (by decide) (by decide) ⟨.free q q, .free q q, .free q q, .ptr q, .own q, .own q, .free q q, .free q q, .free q q, trivial⟩ ⟨⟨_, q, bcBox (all2_free q)⟩, ⟨_, q, bcRow (l := x10) sl47 (Nat.le_refl _) q⟩, ⟨_, q, bcRow (l := x11) sl23 (Nat.le_refl _) q⟩, trivial⟩ ?_
            obtain ⟨o2, hL2, h⟩ := h
            refine .loopB (r22_Levels.b2 a0 a4 x12 t84_6) (fun (x26, x27, x28) => listEnv [(2, .rows (a2.map (cInt .i64))), (3, i6 a3), (4, i6 a4), (5, .ptr 0 1 10 0 0), (14, .own 1 x26.length), (15, .own 2 x27.length), (16, i6 x12), (17, .rows (t84_6.map TMove.cells)), (18, i6 x28)]) (fun (x26, x27, x28) => [⟨10, [(TGraph.lit a0)], 0, none⟩, ⟨4, x26.map TState.cells, 0, none⟩, ⟨1, x27.map (cInt .i64), 0, none⟩]) (fun (x31, x32) => listEnv [(2, .rows (a2.map (cInt .i64))), (3, i6 a3), (4, i6 a4), (5, .ptr 0 1 10 0 0), (14, .own 1 x31.length), (15, .own 2 x32.length), (16, i6 x12)]) (fun (x31, x32) => [⟨10, [(TGraph.lit a0)], 0, none⟩, ⟨4, x31.map TState.cells, 0, none⟩, ⟨1, x32.map (cInt .i64), 0, none⟩]) hL2 (fun r_ => z1 = .ret r_) ?_ ?_ ?_
            · rintro ⟨x31, x32⟩ rfl
              try dsimp only [Fin.on] at h
              refine .inBlock<|.reg0 q (.o (mvV q)<|.o (addI q q)<|.o (asV q)<|.nil0)<|.keepL [0, 1, 2] [(2, .rows (a2.map (cInt .i64))), (3, i6 a3), (4, i6 a4), (5, .ptr 0 1 10 0 0), (14, .own 1 x31.length), (15, .own 2 x32.length), (16, i6 (IntKind.i64.wrap (x12 + 1)))] [⟨10, [(TGraph.lit a0)], 0, none⟩, ⟨4, x31.map TState.cells, 0, none⟩, ⟨1, x32.map (cInt .i64), 0, none⟩] (by decide) (by decide) ⟨.free q q, .free q q, .free q q, .ptr q, .own q, .own q, .free q q, trivial⟩ ⟨⟨_, q, bcBox (all2_free q)⟩, ⟨_, q, bcRow (l := x31) sl47 (Nat.le_refl _) q⟩, ⟨_, q, bcRow (l := x32) sl23 (Nat.le_refl _) q⟩, trivial⟩ ?_
              exact hn1 _ h
            · rintro r_ rfl
              exact h
            · rintro ⟨x26, x27, x28⟩ z2 h hn2 hx2 hr2
              dsimp only [r22_Levels.b2] at h
              refine .seq<|.seq<|.reg0 q (.o (mvV q)<|.o (mvR q)<|.o (lnR (l := t84_6) sl52 q)<|.o (ltI q q)<|.nil0) ?_
              by_cases c55 : x28 < (t84_6.length : Int)
              · rw [if_pos c55] at h
                refine .condT q (dt c55)<|.skip<|.seq ?_
                refine .consJ (fun s_ => r22_Levels.j1 x28 s_ z2) (fun (x33, x34) => listEnv [(2, .rows (a2.map (cInt .i64))), (3, i6 a3), (4, i6 a4), (5, .ptr 0 1 10 0 0), (14, .own 1 x33.length), (15, .own 2 x34.length), (16, i6 x12), (17, .rows (t84_6.map TMove.cells)), (18, i6 x28)]) (fun (x33, x34) => [⟨10, [(TGraph.lit a0)], 0, none⟩, ⟨4, x33.map TState.cells, 0, none⟩, ⟨1, x34.map (cInt .i64), 0, none⟩]) ?_ fun hJ1 => ?_
                · rintro ⟨x33, x34⟩ h
                  unfold r22_Levels.j1 at h
                  try dsimp only at h
                  refine .reg0 q (.m q<|.o (addI q q)<|.a q<|.nil0)<|.keepL [0, 1, 2] [(2, .rows (a2.map (cInt .i64))), (3, i6 a3), (4, i6 a4), (5, .ptr 0 1 10 0 0), (14, .own 1 x33.length), (15, .own 2 x34.length), (16, i6 x12), (17, .rows (t84_6.map TMove.cells)), (18, i6 (IntKind.i64.wrap (x28 + 1)))] [⟨10, [(TGraph.lit a0)], 0, none⟩, ⟨4, x33.map TState.cells, 0, none⟩, ⟨1, x34.map (cInt .i64), 0, none⟩] (by decide) (by decide) ⟨.free q q, .free q q, .free q q, .ptr q, .own q, .own q, .free q q, .free q q, .free q q, trivial⟩ ⟨⟨_, q, bcBox (all2_free q)⟩, ⟨_, q, bcRow (l := x33) sl47 (Nat.le_refl _) q⟩, ⟨_, q, bcRow (l := x34) sl23 (Nat.le_refl _) q⟩, trivial⟩ ?_
                  exact hn2 _ h
                · refine .block<|.seq ?_
                  obtain ⟨g127_3, h⟩ := h
                  obtain ⟨g127_7, h⟩ := h
                  obtain ⟨t127_9, g127_9, h⟩ := h
                  refine .room 0 ?_
                  refine .reg1 (e1 := listEnv [(2, .rows (a2.map (cInt .i64))), (3, i6 a3), (4, i6 a4), (5, .ptr 0 1 10 0 0), (14, .own 1 x26.length), (15, .own 2 x27.length), (16, i6 x12), (17, .rows (t84_6.map TMove.cells)), (18, i6 x28), (19, .ptr 3 1 4 0 0), (20, i6 t127_9.2)]) (H1 := [⟨10, [(TGraph.lit a0)], 0, none⟩, ⟨4, x26.map TState.cells, 0, none⟩, ⟨1, x27.map (cInt .i64), 0, none⟩, ⟨4, [(TState.lit t127_9.1)], 0, none⟩]) q ?_ ?_
                  · exact .drawM [(15, 20, i6 t127_9.2), (13, 19, .ptr 3 1 4 0 0), (12, 86, i6 t127_9.2), (11, 85, .agg (TState.lit t127_9.1)), (10, 74, .tuple [.agg (TState.lit t127_9.1), i6 t127_9.2]), (9, 84, .tuple [.agg (TState.lit t127_9.1), i6 t127_9.2]), (8, 83, .agg (TMove.lit (rdl t84_6 x28))), (7, 82, .cptr (TMove.lit (rdl t84_6 x28)) 0), (6, 81, i6 x28), (5, 80, .rows (t84_6.map TMove.cells)), (4, 79, .agg (TState.lit (rdl x26 x12))), (3, 78, .ptr 1 x26.length 4 (Int.toNat x12) 0), (2, 77, i6 x12), (1, 76, .own 1 x26.length), (0, 75, .agg (TGraph.lit a0))] [(14, 3, ⟨4, [(TState.lit t127_9.1)], 0, none⟩), (13, 3, ⟨4, [GI_c0], 0, none⟩)] [[], [], [], [1, 2], [3, 1, 2], [], [], [5, 6], [7, 5, 6], [0, 4, 3, 1, 2, 8, 7, 5, 6], [9, 0, 4, 3, 1, 2, 8, 7, 5, 6], [10, 9, 0, 4, 3, 1, 2, 8, 7, 5, 6], [10, 9, 0, 4, 3, 1, 2, 8, 7, 5, 6], [], [13, 11, 10, 9, 0, 4, 3, 1, 2, 8, 7, 5, 6], [12, 10, 9, 0, 4, 3, 1, 2, 8, 7, 5, 6, 14, 13, 11]] (by rfl) (by rfl) (by rfl) (by exact ⟨oP (fun _ => ldG q sz29 ag29 q) q, oP (fun _ => mvO q) q, oP (fun _ => mvV q) q, oP (fun _ => ixO (l := x26) sl47 q q q q g127_3.1 g127_3.2) q, oP (fun _ => ldOG (l := x26) (j := x12) sl47 q sz33 ag33 q q (fun _ => q) g127_3.1 g127_3.2 (by decide) q) q, oP (fun _ => mvR q) q, oP (fun _ => mvV q) q, oP (fun _ => ixR (l := t84_6) (lit := TMove.lit) sl52 q q (fun _ => q) g127_7.1 g127_7.2) q, oP (fun _ => ldCG q sz54 ag54 q) q, fun S hS hD hn => .oneI hS hD hn q q (callee_of q go56 q) (.pure q q (r22_do.D g127_9)) q q q, oP (fun _ => mvT q) q, oP (fun _ => exT q q) q, oP (fun _ => exT q q) q, oW 3 (fun _ => alP (s := 4) ze33 ⟨q, by decide, q⟩ q) q fun _ => q, fun S hS hD hn => .one0 0 q q (stB (cs0 := GI_c0) (cs := (TState.lit t127_9.1)) (cs1 := (TState.lit t127_9.1)) q q sz33 q ⟨Nat.le_of_ble_eq_true q, q⟩ q) (drawE_other _ _ _ _ q) q, oP (fun _ => asV q) q, trivial⟩) _ (by exact ⟨.free q q, .free q q, .free q q, .ptr q, .own q, .own q, .free q q, .free q q, .free q q, .ptr q, .free q q, trivial⟩) (by rfl)
                  refine .seq<|.seq<|.reg0 q (.o (mvV q)<|.o (neI q q)<|.nil0) ?_
                  by_cases c59 : t127_9.2 = 0
                  · rw [if_pos c59] at h
                    refine .condF q (nf c59)<|.skip<|.seq<|.seq ?_
                    obtain ⟨t129_2, g129_2, h⟩ := h
                    refine .reg0 q (.o (mvO q)<|.o (ldG q sz33 ag33 q)<|.callI q (callee_of q go23 q) (.lendC (args' := [.rows (x26.map TState.cells), .agg (TState.lit t127_9.1)])  [1] false (.cons (cFixO (l := x26) sl47 q q q q)<|.cons (.free q q)<|.nil) (by decide) q q q q (r22_In.D g129_2))<|.nil0) ?_
                    by_cases c60 : t129_2 = true
                    · rw [if_pos c60] at h
                      refine .condT q c60<|.exit q<|.keepL [0, 1, 2] [(2, .rows (a2.map (cInt .i64))), (3, i6 a3), (4, i6 a4), (5, .ptr 0 1 10 0 0), (14, .own 1 x26.length), (15, .own 2 x27.length), (16, i6 x12), (17, .rows (t84_6.map TMove.cells)), (18, i6 x28)] [⟨10, [(TGraph.lit a0)], 0, none⟩, ⟨4, x26.map TState.cells, 0, none⟩, ⟨1, x27.map (cInt .i64), 0, none⟩] (by decide) (by decide) ⟨.free q q, .free q q, .free q q, .ptr q, .own q, .own q, .free q q, .free q q, .free q q, trivial⟩ ⟨⟨_, q, bcBox (all2_free q)⟩, ⟨_, q, bcRow (l := x26) sl47 (Nat.le_refl _) q⟩, ⟨_, q, bcRow (l := x27) sl23 (Nat.le_refl _) q⟩, trivial⟩ ?_
                      exact hJ1 _ h
                    · rw [if_neg c60] at h
                      refine .condF q (nb c60)<|.skip<|.seq<|.seq<|.reg0 q (.o (mvO q)<|.o (lnO (l := x26) sl47 q q q)<|.o (mvV q)<|.o (geI q q)<|.nil0) ?_
                      by_cases c61 : (x26.length : Int) ≥ a4
                      · rw [if_pos c61] at h
                        refine .condT q (dt c61)<|.seq<|.reg0 q (.o (asV q)<|.o (asV q)<|.o (asV q)<|.nil0) ?_
                        have q53 := hr2 _ h
                        have q54 := hr1 _ q53
                        replace q54 := q54.symm
                        subst q54
                        refine .k [(10, .rows (([] : List TState).map TState.cells)), (11, .rows (([] : List Int).map (cInt .i64))), (12, i6 3)] ⟨.nil, .nil, .free q q, trivial⟩ ?_
                        exact .ret q
                      · rw [if_neg c61] at h
                        refine .condF q (df c61)<|.skip ?_
                        obtain ⟨g132_3, h⟩ := h
                        obtain ⟨g132_7, h⟩ := h
                        obtain ⟨g132_11, h⟩ := h
                        refine .room 0<|.room 0<|.room 0<|.room 0 ?_
                        refine .reg1 (e1 := listEnv [(2, .rows (a2.map (cInt .i64))), (3, i6 a3), (4, i6 a4), (5, .ptr 0 1 10 0 0), (14, .own 1 ((x26 ++ [t127_9.1]).length)), (15, .own 2 ((x27 ++ [(IntKind.i64.wrap ((rdl x27 x12) + 1))]).length)), (16, i6 x12), (17, .rows (t84_6.map TMove.cells)), (18, i6 x28)]) (H1 := [⟨10, [(TGraph.lit a0)], 0, none⟩, ⟨4, (x26 ++ [t127_9.1]).map TState.cells, 0, none⟩, ⟨1, (x27 ++ [(IntKind.i64.wrap ((rdl x27 x12) + 1))]).map (cInt .i64), 0, none⟩, ⟨4, [(TState.lit t127_9.1)], 0, none⟩, ⟨4, [t127_9.1].map TState.cells, 0, none⟩, Blk.hole, ⟨1, [(IntKind.i64.wrap ((rdl x27 x12) + 1))].map (cInt .i64), 0, none⟩, Blk.hole]) q ?_ ?_
                        · exact .drawM [(13, 15, .own 2 ((x27 ++ [(IntKind.i64.wrap ((rdl x27 x12) + 1))]).length)), (12, 14, .own 1 ((x26 ++ [t127_9.1]).length)), (11, 108, .own 2 ((x27 ++ [(IntKind.i64.wrap ((rdl x27 x12) + 1))]).length)), (10, 107, .own 6 ([(IntKind.i64.wrap ((rdl x27 x12) + 1))].length)), (9, 106, i6 (IntKind.i64.wrap ((rdl x27 x12) + 1))), (8, 105, i6 (rdl x27 x12)), (7, 104, .ptr 2 x27.length 1 (Int.toNat x12) 0), (6, 103, i6 x12), (5, 102, .own 2 x27.length), (4, 101, .own 2 x27.length), (3, 100, .own 1 ((x26 ++ [t127_9.1]).length)), (2, 99, .own 4 ([t127_9.1].length)), (1, 98, .agg (TState.lit t127_9.1)), (0, 97, .own 1 x26.length)] [(11, 2, ⟨1, (x27 ++ [(IntKind.i64.wrap ((rdl x27 x12) + 1))]).map (cInt .i64), 0, none⟩), (10, 6, ⟨1, [(IntKind.i64.wrap ((rdl x27 x12) + 1))].map (cInt .i64), 0, none⟩), (3, 1, ⟨4, (x26 ++ [t127_9.1]).map TState.cells, 0, none⟩), (2, 4, ⟨4, [t127_9.1].map TState.cells, 0, none⟩)] [[], [], [1], [0, 2, 1], [], [], [], [5, 6], [7, 5, 6], [8, 7, 5, 6], [9, 8, 7, 5, 6], [4, 10, 9, 8, 7, 5, 6, 3, 0, 2, 1], [3, 0, 2, 1, 11, 4, 10, 9, 8, 7, 5, 6], [11, 4, 10, 9, 8, 7, 5, 6, 3, 0, 2, 1, 12]] (by rfl) (by rfl) (by rfl) (by exact ⟨oP (fun _ => mvO q) q, oP (fun _ => ldG q sz33 ag33 q) q, oW 4 (fun _ => bldL (s := 4) (cs := [i6 t127_9.1.Node, .rows (t127_9.1.Env.map (cInt .i64)), u6 t127_9.1.Marks, .rows (t127_9.1.Stack.map (cInt .i64))]) un47 sz33 ze33 ⟨by decide, q, by decide⟩ q q q q) q fun _ => q, oW 0 (fun _ => ap1 (l := x26) t127_9.1 sl47 q q q (Nat.zero_le _) (elems_own (l := [t127_9.1]) q q) g132_3) q fun _ => q, oP (fun _ => mvO q) q, oP (fun _ => mvO q) q, oP (fun _ => mvV q) q, oP (fun _ => ixO (l := x27) sl23 q q q q g132_7.1 g132_7.2) q, oP (fun _ => ldO (l := x27) (j := x12) sl23 q sz3 ag3 q q (fun _ => q) g132_7.1 g132_7.2 (by decide) q) q, oP (fun _ => addI q q) q, oW 6 (fun _ => bldL (s := 1) (cs := [i6 (IntKind.i64.wrap ((rdl x27 x12) + 1))]) un23 sz3 ze3 ⟨by decide, q, by decide⟩ q q q q) q fun _ => q, oW 0 (fun _ => ap1 (l := x27) (IntKind.i64.wrap ((rdl x27 x12) + 1)) sl23 q q q (Nat.zero_le _) (elems_own (l := [(IntKind.i64.wrap ((rdl x27 x12) + 1))]) q q) g132_11) q fun _ => q, oP (fun _ => asO q) q, oP (fun _ => asO q) q, trivial⟩) _ (by exact ⟨.free q q, .free q q, .free q q, .ptr q, .own q, .own q, .free q q, .free q q, .free q q, trivial⟩) (by rfl)
                        refine .inBlock<|.keepL [0, 1, 2] [(2, .rows (a2.map (cInt .i64))), (3, i6 a3), (4, i6 a4), (5, .ptr 0 1 10 0 0), (14, .own 1 ((x26 ++ [t127_9.1]).length)), (15, .own 2 ((x27 ++ [(IntKind.i64.wrap ((rdl x27 x12) + 1))]).length)), (16, i6 x12), (17, .rows (t84_6.map TMove.cells)), (18, i6 x28)] [⟨10, [(TGraph.lit a0)], 0, none⟩, ⟨4, (x26 ++ [t127_9.1]).map TState.cells, 0, none⟩, ⟨1, (x27 ++ [(IntKind.i64.wrap ((rdl x27 x12) + 1))]).map (cInt .i64), 0, none⟩] (by decide) (by decide) ⟨.free q q, .free q q, .free q q, .ptr q, .own q, .own q, .free q q, .free q q, .free q q, trivial⟩ ⟨⟨_, q, bcBox (all2_free q)⟩, ⟨_, q, bcRow (l := (x26 ++ [t127_9.1])) sl47 (Nat.le_refl _) q⟩, ⟨_, q, bcRow (l := (x27 ++ [(IntKind.i64.wrap ((rdl x27 x12) + 1))])) sl23 (Nat.le_refl _) q⟩, trivial⟩ ?_
                        exact hJ1 _ h
                  · rw [if_neg c59] at h
                    refine .condT q (nt c59)<|.seq<|.reg0 q (.o (mvV q)<|.o (asV q)<|.o (asV q)<|.o (asV q)<|.nil0) ?_
                    have q55 := hr2 _ h
                    have q56 := hr1 _ q55
                    replace q56 := q56.symm
                    subst q56
                    refine .k [(10, .rows (([] : List TState).map TState.cells)), (11, .rows (([] : List Int).map (cInt .i64))), (12, i6 t127_9.2)] ⟨.nil, .nil, .free q q, trivial⟩ ?_
                    exact .ret q
              · rw [if_neg c55] at h
                refine .condF q (df c55)<|.exit q<|.keepL [0, 1, 2] [(2, .rows (a2.map (cInt .i64))), (3, i6 a3), (4, i6 a4), (5, .ptr 0 1 10 0 0), (14, .own 1 x26.length), (15, .own 2 x27.length), (16, i6 x12)] [⟨10, [(TGraph.lit a0)], 0, none⟩, ⟨4, x26.map TState.cells, 0, none⟩, ⟨1, x27.map (cInt .i64), 0, none⟩] (by decide) (by decide) ⟨.free q q, .free q q, .free q q, .ptr q, .own q, .own q, .free q q, trivial⟩ ⟨⟨_, q, bcBox (all2_free q)⟩, ⟨_, q, bcRow (l := x26) sl47 (Nat.le_refl _) q⟩, ⟨_, q, bcRow (l := x27) sl23 (Nat.le_refl _) q⟩, trivial⟩ ?_
                exact hx2 _ h
        · rw [if_neg c39] at h
          refine .condF q (df c39)<|.exit q<|.keepL [1, 2] [(14, .own 0 x10.length), (15, .own 1 x11.length)] [⟨4, x10.map TState.cells, 0, none⟩, ⟨1, x11.map (cInt .i64), 0, none⟩] (by decide) (by decide) ⟨.own q, .own q, trivial⟩ ⟨⟨_, q, bcRow (l := x10) sl47 (Nat.le_refl _) q⟩, ⟨_, q, bcRow (l := x11) sl23 (Nat.le_refl _) q⟩, trivial⟩ ?_
          exact hx1 _ h
  · rw [if_neg c1] at h
    refine .condT q (nt c1)<|.seq<|.reg0 q (.o (mvV q)<|.o (asV q)<|.o (asV q)<|.o (asV q)<|.nil0) ?_
    replace h := h.symm
    subst h
    refine .k [(10, .rows (([] : List TState).map TState.cells)), (11, .rows (([] : List Int).map (cInt .i64))), (12, i6 t2_2)] ⟨.nil, .nil, .free q q, trivial⟩ ?_
    exact .ret q
def r22_Explore.f (a0 : TGraph) (a1 : TState) (a2 : List Int) (a3 : Int) (a4 : Int) (r : (List TState) × Int) : Prop :=
  ∃ t2_5 : (List TState) × (List Int) × Int, (r22_Levels.f a0 a1 a2 a3 a4 t2_5) ∧ r = (t2_5.1, t2_5.2.2)
theorem r22_Explore.D {a0 a1 a2 a3 a4 r} (h : r22_Explore.f a0 a1 a2 a3 a4 r) : D Tryz.prog X (.callH 20 [.agg (TGraph.lit a0), .agg (TState.lit a1), .rows (a2.map (cInt .i64)), .val (.int .i64 a3), .val (.int .i64 a4)] [] (.tuple [.rows (r.1.map TState.cells), .val (.int .i64 r.2)]) []) := by
  unfold r22_Explore.f at h
  refine .enter 27 0 fn20 q q q<|.seq<|.room 0<|.room 0<|.reg0 q (.o (bxP (s := 10) (cs := (TGraph.lit a0)) q ⟨q, by decide, q⟩ q)<|.op 1 q (bxP (s := 4) (cs := (TState.lit a1)) q ⟨q, by decide, q⟩ q)<|.o (asV q)<|.o (asV q)<|.nil0)<|.seq ?_
  obtain ⟨t2_5, g2_5, h⟩ := h
  refine .reg0 q (.o (ldG q sz29 ag29 q)<|.o (ldG q sz33 ag33 q)<|.o (mvR q)<|.m q<|.m q<|.c q go38 q q q (r22_Levels.D g2_5)<|.o (mvT q)<|.o (exT q q)<|.o (exT q q)<|.o (exT q q)<|.o (asR q)<|.o (asR q)<|.a q<|.nil0)<|.seq<|.reg0 q (.o (mvR q)<|.o (mvV q)<|.o (asR q)<|.o (asV q)<|.nil0) ?_
  replace h := h.symm
  subst h
  refine .kf [(10, .rows (t2_5.1.map TState.cells)), (11, i6 t2_5.2.2)] q q ?_
  exact .ret q
def r22_Sames.b1 (a0 : List TState) (a1 : List TState) : Int → Rnd Int Unit Bool → Prop := fun x1 z1 => if x1 < (a0.length : Int) then (((InR x1 a0.length)) ∧ ((InR x1 a1.length)) ∧ ∃ t13_8 : Bool, (r22_Same.f (rdl a0 x1) (rdl a1 x1) t13_8) ∧ if t13_8 = true then (z1 = .next (IntKind.i64.wrap (x1 + 1))) else (z1 = .ret false)) else (z1 = .exit ())
def r22_Sames.f (a0 : List TState) (a1 : List TState) (r : Bool) : Prop :=
  if (a0.length : Int) = (a1.length : Int) then (∃ o1 : Fin Unit Bool, Loop (r22_Sames.b1 a0 a1) 0 o1 ∧ o1.on (fun _ => r = true) (fun r_ => r = r_)) else (r = false)
theorem r22_Sames.D {a0 a1 r} (h : r22_Sames.f a0 a1 r) : D Tryz.prog X (.callH 21 [.rows (a0.map TState.cells), .rows (a1.map TState.cells)] [] (.val (.bool r)) []) := by
  unfold r22_Sames.f at h
  refine .enter 27 0 fn21 q q q<|.seq<|.reg0 q (.o (asV q)<|.nil0)<|.seq<|.seq<|.reg0 q (.o (mvR q)<|.o (lnR (l := a0) sl47 q)<|.o (mvR q)<|.o (lnR (l := a1) sl47 q)<|.o (neI q q)<|.nil0) ?_
  by_cases c1 : (a0.length : Int) = (a1.length : Int)
  · rw [if_pos c1] at h
    refine .condF q (nf c1)<|.skip<|.seq<|.seq<|.reg0 q (.o (asV q)<|.nil0)<|.block<|.keepL [] [(0, .rows (a0.map TState.cells)), (1, .rows (a1.map TState.cells)), (5, i6 0)] [] (by decide) (by decide) ⟨.free q q, .free q q, .free q q, trivial⟩ trivial ?_
    obtain ⟨o1, hL1, h⟩ := h
    refine .loopB (r22_Sames.b1 a0 a1) (fun x1 => listEnv [(0, .rows (a0.map TState.cells)), (1, .rows (a1.map TState.cells)), (5, i6 x1)]) (fun x1 => []) (fun _ => listEnv []) (fun _ => []) hL1 (fun r_ => r = r_) ?_ ?_ ?_
    · rintro ⟨⟩ rfl
      try dsimp only [Fin.on] at h
      refine .seq<|.reg0 q (.o (asV q)<|.nil0) ?_
      replace h := h.symm
      subst h
      refine .kf [(4, bo true)] q q ?_
      exact .ret q
    · rintro r_ rfl
      exact h
    · rintro x1 z1 h hn1 hx1 hr1
      dsimp only [r22_Sames.b1] at h
      refine .seq<|.seq<|.reg0 q (.o (mvV q)<|.o (mvR q)<|.o (lnR (l := a0) sl47 q)<|.o (ltI q q)<|.nil0) ?_
      by_cases c6 : x1 < (a0.length : Int)
      · rw [if_pos c6] at h
        refine .condT q (dt c6)<|.skip<|.seq<|.block<|.seq ?_
        obtain ⟨g13_2, h⟩ := h
        obtain ⟨g13_6, h⟩ := h
        obtain ⟨t13_8, g13_8, h⟩ := h
        refine .reg1 (e1 := listEnv [(0, .rows (a0.map TState.cells)), (1, .rows (a1.map TState.cells)), (5, i6 x1), (26, bo (!t13_8))]) (H1 := []) q ?_ ?_
        · exact .drawM [(9, 26, bo (!t13_8)), (8, 25, bo t13_8), (7, 24, .agg (TState.lit (rdl a1 x1))), (6, 23, .cptr (TState.lit (rdl a1 x1)) 0), (5, 22, i6 x1), (4, 21, .rows (a1.map TState.cells)), (3, 20, .agg (TState.lit (rdl a0 x1))), (2, 19, .cptr (TState.lit (rdl a0 x1)) 0), (1, 18, i6 x1), (0, 17, .rows (a0.map TState.cells))] [] [[], [], [0, 1], [2, 0, 1], [], [], [4, 5], [6, 4, 5], [3, 2, 0, 1, 7, 6, 4, 5], [8, 3, 2, 0, 1, 7, 6, 4, 5]] (by rfl) (by rfl) (by rfl) (by exact ⟨oP (fun _ => mvR q) q, oP (fun _ => mvV q) q, oP (fun _ => ixR (l := a0) (lit := TState.lit) sl47 q q (fun _ => q) g13_2.1 g13_2.2) q, oP (fun _ => ldCG q sz33 ag33 q) q, oP (fun _ => mvR q) q, oP (fun _ => mvV q) q, oP (fun _ => ixR (l := a1) (lit := TState.lit) sl47 q q (fun _ => q) g13_6.1 g13_6.2) q, oP (fun _ => ldCG q sz33 ag33 q) q, fun S hS hD hn => .oneI hS hD hn q q (callee_of q go14 q) (.pure q q (r22_Same.D g13_8)) q q q, oP (fun _ => notB q) q, trivial⟩) _ (by exact ⟨.free q q, .free q q, .free q q, .free q q, trivial⟩) (by rfl)
        by_cases c7 : t13_8 = true
        · rw [if_pos c7] at h
          refine .condF q (bnotF c7)<|.skip<|.inBlock<|.reg0 q (.o (mvV q)<|.o (addI q q)<|.o (asV q)<|.nil0)<|.kf [(0, .rows (a0.map TState.cells)), (1, .rows (a1.map TState.cells)), (5, i6 (IntKind.i64.wrap (x1 + 1)))] q q ?_
          exact hn1 _ h
        · rw [if_neg c7] at h
          refine .condT q (bnotT (nb c7))<|.seq<|.reg0 q (.o (asV q)<|.nil0) ?_
          have q3 := hr1 _ h
          replace q3 := q3.symm
          subst q3
          refine .kf [(4, bo false)] q q ?_
          exact .ret q
      · rw [if_neg c6] at h
        refine .condF q (df c6)<|.exit q<|.keepL [] [] [] (by decide) (by decide) trivial trivial ?_
        exact hx1 _ h
  · rw [if_neg c1] at h
    refine .condT q (nt c1)<|.seq<|.reg0 q (.o (asV q)<|.nil0) ?_
    replace h := h.symm
    subst h
    refine .kf [(4, bo false)] q q ?_
    exact .ret q
end Go.RM.Tryz
