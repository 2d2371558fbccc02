/- GE, for the statement FramesExplores: what it needs, no more. -/
import Derived.Test.YtcogffeinodfaaaGreatDoorZFramesExploresGD
set_option linter.unusedVariables false
set_option maxRecDepth 8000
set_option maxHeartbeats 4000000
namespace Go.RM.Tryz
open Go.RM Go.Proofs
def frames_do.j1 (a0 : TGraph) (a1 : TState) (a2 : TMove) (t2_4 : (List Int)) (t2_9 : (List Int)) : Unit → (TState × Int) → Prop := fun _ r => ∃ t33_7 : Int, (frames_set.f a1.Marks ((rdl a0.Steps a2.Step).X) ((rdl a0.Steps a2.Step).Kind == 5) t33_7) ∧ r = ((TState.mk ((rdl a0.Steps a2.Step).To) t2_4 t33_7 t2_9), 0)
def frames_do.f (a0 : TGraph) (a1 : TState) (a2 : TMove) (r : TState × Int) : Prop :=
  ∃ t2_4 : (List Int), (slices_Clone_int64_o0.f a1.Env t2_4) ∧ ∃ t2_9 : (List Int), (slices_Clone_int.f a1.Stack t2_9) ∧ if a2.Step = (-1) then (∃ t4_6 : Bool, ((a2.Draw = 0) → frames_over.f a0 a1 t4_6) ∧ if ((!(a2.Draw == 0)) || (!t4_6)) = true then (r = ((TState.mk 0 [] 0 []), 221)) else (((InR 0 a1.Stack.length)) ∧ ((InR (rdl a1.Stack 0) a0.Sites.length)) ∧ ((Cut 1 (t2_9.length : Int) t2_9.length)) ∧ r = ((TState.mk ((rdl a0.Sites (rdl a1.Stack 0)).Back) t2_4 a1.Marks (cutl t2_9 1 (t2_9.length : Int))), 0))) else (if ((decide (a2.Step < 0)) || (decide (a2.Step ≥ (a0.Steps.length : Int)))) = true then (r = ((TState.mk 0 [] 0 []), 221)) else (((InR a2.Step a0.Steps.length)) ∧ if ((!((rdl a0.Steps a2.Step).From == a1.Node)) || ((!(a2.Draw == 0)) && ((rdl a0.Steps a2.Step).Kind != 4))) = true then (r = ((TState.mk 0 [] 0 []), 221)) else (if (rdl a0.Steps a2.Step).Kind = 2 then (∃ t36_10 : Int, (frames_set.f a1.Marks ((rdl a0.Steps a2.Step).X) false t36_10) ∧ ((InR ((rdl a0.Steps a2.Step).X) t2_4.length)) ∧ r = ((TState.mk ((rdl a0.Steps a2.Step).To) (setl t2_4 ((rdl a0.Steps a2.Step).X) ((rdl a0.Steps a2.Step).K)) t36_10 t2_9), 0)) else (if (rdl a0.Steps a2.Step).Kind = 4 then (∃ t39_10 : Int, (frames_set.f a1.Marks ((rdl a0.Steps a2.Step).X) false t39_10) ∧ ((InR ((rdl a0.Steps a2.Step).X) t2_4.length)) ∧ r = ((TState.mk ((rdl a0.Steps a2.Step).To) (setl t2_4 ((rdl a0.Steps a2.Step).X) a2.Draw) t39_10 t2_9), 0)) else (if (rdl a0.Steps a2.Step).Kind = 3 then (((InR ((rdl a0.Steps a2.Step).Y) a1.Env.length)) ∧ (((0 : Int) ≤ (rdl a0.Steps a2.Step).Y)) ∧ ∃ t42_21 : Int, (frames_set.f a1.Marks ((rdl a0.Steps a2.Step).X) ((bitOp .and .u64 (shrI .u64 a1.Marks ((rdl a0.Steps a2.Step).Y)) 1) == 1) t42_21) ∧ ((InR ((rdl a0.Steps a2.Step).X) t2_4.length)) ∧ r = ((TState.mk ((rdl a0.Steps a2.Step).To) (setl t2_4 ((rdl a0.Steps a2.Step).X) (rdl a1.Env ((rdl a0.Steps a2.Step).Y))) t42_21 t2_9), 0)) else (if (rdl a0.Steps a2.Step).Kind = 5 then (frames_do.j1 a0 a1 a2 t2_4 t2_9 () r) else (if (rdl a0.Steps a2.Step).Kind = 6 then (frames_do.j1 a0 a1 a2 t2_4 t2_9 () r) else (if (rdl a0.Steps a2.Step).Kind = 8 then (if (a1.Stack.length : Int) ≥ 4096 then (r = ((TState.mk 0 [] 0 []), 2)) else (((InR ((rdl a0.Steps a2.Step).Site) a0.Sites.length)) ∧ ((InR ((rdl a0.Sites ((rdl a0.Steps a2.Step).Site)).Proc) a0.Entry.length)) ∧ ((Fits ([(rdl a0.Steps a2.Step).Site].length + t2_9.length) 8)) ∧ r = ((TState.mk (rdl a0.Entry ((rdl a0.Sites ((rdl a0.Steps a2.Step).Site)).Proc)) t2_4 a1.Marks ([(rdl a0.Steps a2.Step).Site] ++ t2_9)), 0))) else (r = ((TState.mk ((rdl a0.Steps a2.Step).To) t2_4 a1.Marks t2_9), 0))))))))))
abbrev GE_A0 : List (List Nat) := [[], [0], [], [2], [], [4], [], [6], [], [8], [7, 6, 9, 8], [1, 0, 3, 2, 4, 5, 10, 7, 6, 9, 8], [11, 1, 0, 3, 2, 4, 5, 10, 7, 6, 9, 8], [0, 1, 2, 3, 4, 5, 6, 7, 8, 9, 10, 11, 12], [13, 0, 1, 2, 3, 4, 5, 6, 7, 8, 9, 10, 11, 12]]
abbrev GE_c0 : List PV := [i6 0, nul, u6 0, nul]
abbrev GE_c1 : List PV := [i6 0, .rows (([] : List Int).map (cInt .i64)), u6 0, .rows (([] : List Int).map (cInt .i64))]
theorem frames_do.D {a0 a1 a2 r} (h : frames_do.f a0 a1 a2 r) : D Tryz.prog X (.callH 37 [.agg (TGraph.lit a0), .agg (TState.lit a1), .agg (TMove.lit a2)] [] (.tuple [.agg (TState.lit r.1), .val (.int .i64 r.2)]) []) := by
  unfold frames_do.f at h
  refine .enter 184 0 fn37 q q q<|.seq<|.room 0<|.room 0<|.room 0<|.room 0<|.reg0 q (.o (bxP (s := 10) (cs := (TGraph.lit a0)) q ⟨q, by decide, q⟩ q)<|.op 1 q (bxP (s := 4) (cs := (TState.lit a1)) q ⟨q, by decide, q⟩ q)<|.op 2 q (bxP (s := 2) (cs := (TMove.lit a2)) q ⟨q, by decide, q⟩ q)<|.op 3 q (alP (s := 4) ze33 ⟨q, by decide, q⟩ q)<|.o (asV q)<|.nil0) ?_
  refine .seq ?_
  obtain ⟨t2_4, g2_4, h⟩ := h
  obtain ⟨t2_9, g2_9, h⟩ := h
  refine .room 0<|.room 0 ?_
  refine .reg1 (e1 := listEnv [(3, .ptr 0 1 10 0 0), (4, .ptr 1 1 4 0 0), (5, .ptr 2 1 2 0 0), (6, .ptr 3 1 4 0 0), (8, .ptr 4 1 4 0 0)]) (H1 := [⟨10, [(TGraph.lit a0)], 0, none⟩, ⟨4, [(TState.lit a1)], 0, none⟩, ⟨2, [(TMove.lit a2)], 0, none⟩, ⟨4, [GE_c0], 0, none⟩, ⟨4, [[i6 a1.Node, .own 5 t2_4.length, u6 a1.Marks, .rows (t2_9.map (cInt .i64))]], 0, none⟩, ⟨1, t2_4.map (cInt .i64), 0, none⟩]) q ?_ ?_
  · exact .drawM [(11, 8, .ptr 4 1 4 0 0), (10, 20, .agg [i6 a1.Node, .own 5 t2_4.length, u6 a1.Marks, .rows (t2_9.map (cInt .i64))]), (9, 19, .rows (t2_9.map (cInt .i64))), (8, 18, .rows (a1.Stack.map (cInt .i64))), (7, 17, .ptr 1 1 4 0 3), (6, 16, u6 a1.Marks), (5, 15, .ptr 1 1 4 0 2), (4, 14, .own 5 t2_4.length), (3, 13, .rows (a1.Env.map (cInt .i64))), (2, 12, .ptr 1 1 4 0 1), (1, 11, i6 a1.Node), (0, 10, .ptr 1 1 4 0 0)] [(12, 4, ⟨4, [[i6 a1.Node, .own 5 t2_4.length, u6 a1.Marks, .rows (t2_9.map (cInt .i64))]], 0, none⟩), (11, 4, ⟨4, [GE_c0], 0, none⟩), (4, 5, ⟨1, t2_4.map (cInt .i64), 0, none⟩)] [[], [0], [], [2], [3, 2], [], [5], [], [7], [8, 7, 4, 3, 2], [1, 0, 4, 3, 2, 6, 5, 9, 8, 7], [], [11, 10, 1, 0, 4, 3, 2, 6, 5, 9, 8, 7]] (by rfl) (by rfl) (by rfl) (by exact ⟨oP (fun _ => faP fa33_0 q) q, oP (fun _ => ldP q sz3 ag3 q) q, oP (fun _ => faP fa33_1 q) q, oP (fun _ => ldP q sz30 ag30 q) q, fun S hS hD hn => .oneI hS hD hn q q (callee_of q go33 q) (.focus (args' := [.rows (a1.Env.map (cInt .i64))]) (H0 := []) (Hc := [⟨1, t2_4.map (cInt .i64), 0, none⟩]) (Hd := [⟨1, t2_4.map (cInt .i64), 0, none⟩]) [] [] [5] false (.cons (.free q q)<|.nil) (HConvL.heap trivial) (by decide) q q (slices_Clone_int64_o0.D g2_4) (.own q) (.cons (bcRow (l := t2_4) sl30 (Nat.le_refl _) q)<|.nil) q (.inr (.inl q)) q) q q q, oP (fun _ => faP fa33_2 q) q, oP (fun _ => ldP q sz31 ag31 q) q, oP (fun _ => faP fa33_3 q) q, oP (fun _ => ldP q sz23 ag23 q) q, fun S hS hD hn => .oneI hS hD hn q q (callee_of q go34 q) (.pure q q (slices_Clone_int.D g2_9)) q q q, oP (fun _ => bldS (cs := [i6 a1.Node, .own 5 t2_4.length, u6 a1.Marks, .rows (t2_9.map (cInt .i64))]) ze33 pl33 q q) q, oW 4 (fun _ => alP (s := 4) ze33 ⟨q, by decide, q⟩ q) q fun _ => q, fun S hS hD hn => .one0 0 q q (stB (cs0 := GE_c0) (cs := [i6 a1.Node, .own 5 t2_4.length, u6 a1.Marks, .rows (t2_9.map (cInt .i64))]) (cs1 := [i6 a1.Node, .own 5 t2_4.length, u6 a1.Marks, .rows (t2_9.map (cInt .i64))]) q q sz33 q ⟨Nat.le_of_ble_eq_true q, q⟩ q) (drawE_other _ _ _ _ q) q, trivial⟩) _ (by exact ⟨.ptr q, .ptr q, .ptr q, .ptr q, .ptr q, trivial⟩) (by rfl)
  refine .seq<|.seq<|.reg0 q (.o (faP fa54_0 q)<|.o (ldP q sz3 ag3 q)<|.o (eqI q q)<|.nil0) ?_
  by_cases c1 : a2.Step = (-1)
  · rw [if_pos c1] at h
    refine .condT q (bt c1)<|.seq<|.seq ?_
    obtain ⟨t4_6, g4_6, h⟩ := h
    refine .reg0 (e1 := listEnv [(3, .ptr 0 1 10 0 0), (4, .ptr 1 1 4 0 0), (6, .ptr 3 1 4 0 0), (8, .ptr 4 1 4 0 0), (32, bo ((!(a2.Draw == 0)) || (!t4_6)))]) (H1 := [⟨10, [(TGraph.lit a0)], 0, none⟩, ⟨4, [(TState.lit a1)], 0, none⟩, ⟨2, [(TMove.lit a2)], 0, none⟩, ⟨4, [GE_c0], 0, none⟩, ⟨4, [[i6 a1.Node, .own 5 t2_4.length, u6 a1.Marks, .rows (t2_9.map (cInt .i64))]], 0, none⟩, ⟨1, t2_4.map (cInt .i64), 0, none⟩]) q ?_ ?_
    · refine .o (faP fa54_1 q)<|.o (ldP q sz2 ag2 q)<|.o (neI q q)<|.m q<|?_
      by_cases c2 : a2.Draw = 0
      · exact (.g q (nf c2) (ldG q sz29 ag29 q)<|.g q (nf c2) (ldG q sz33 ag33 q)<|.callI (gT q q q (nf c2)) (callee_of q go28 q) (.pure q q (frames_over.D (g4_6 c2)))<|.g q (nf c2) (notB q)<|.o (pkFV q (nf c2) q)<|.nilL _ ⟨.ptr q, .ptr q, .ptr q, .ptr q, cB q (mOrF (bnotF (bt c2)) q), trivial⟩)
      · exact (.n q (nt c2)<|.n q (nt c2)<|.n q (nt c2)<|.n q (nt c2)<|.o (pkTV q (nt c2) q)<|.nilL _ ⟨.ptr q, .ptr q, .ptr q, .ptr q, cB q (mOrT (bnotT (bn c2))), trivial⟩)
    by_cases c3 : ((!(a2.Draw == 0)) || (!t4_6)) = true
    · rw [if_pos c3] at h
      refine .condT q c3<|.seq<|.reg0 q (.o (bldS (cs := GE_c0) ze33 pl33 q q)<|.o (stB (cs0 := GE_c0) (cs := GE_c0) (cs1 := GE_c0) q q sz33 q ⟨Nat.le_of_ble_eq_true q, q⟩ q)<|.o (asV q)<|.nil0) ?_
      replace h := h.symm
      subst h
      refine .k [(6, .cptr GE_c1 0), (7, i6 221)] ⟨cFixP q q (.cons (.free q q)<|.cons (.nil)<|.cons (.free q q)<|.cons (.nil)<|.nil), .free q q, trivial⟩ ?_
      exact .ret q
    · rw [if_neg c3] at h
      refine .condF q (nb c3)<|.skip<|.seq ?_
      obtain ⟨g6_4, h⟩ := h
      obtain ⟨g6_6, h⟩ := h
      obtain ⟨g6_11, h⟩ := h
      refine .reg1 (e1 := listEnv [(6, .ptr 3 1 4 0 0), (8, .ptr 4 1 4 0 0)]) (H1 := [⟨10, [(TGraph.lit a0)], 0, none⟩, ⟨4, [(TState.lit a1)], 0, none⟩, ⟨2, [(TMove.lit a2)], 0, none⟩, ⟨4, [GE_c0], 0, none⟩, ⟨4, [[i6 ((rdl a0.Sites (rdl a1.Stack 0)).Back), .own 5 t2_4.length, u6 a1.Marks, .rows ((cutl t2_9 1 (t2_9.length : Int)).map (cInt .i64))]], 0, none⟩, ⟨1, t2_4.map (cInt .i64), 0, none⟩]) q ?_ ?_
      · exact .drawM [(14, 47, .ptr 4 1 4 0 3), (12, 46, .ptr 4 1 4 0 0), (11, 45, .rows ((cutl t2_9 1 (t2_9.length : Int)).map (cInt .i64))), (10, 44, .rows (t2_9.map (cInt .i64))), (9, 43, .ptr 4 1 4 0 3), (8, 42, i6 ((rdl a0.Sites (rdl a1.Stack 0)).Back)), (7, 41, .cptr (TSite.lit (rdl a0.Sites (rdl a1.Stack 0))) 3), (6, 40, .cptr (TSite.lit (rdl a0.Sites (rdl a1.Stack 0))) 0), (5, 39, i6 (rdl a1.Stack 0)), (4, 38, .cptr ((cInt .i64) (rdl a1.Stack 0)) 0), (3, 37, .rows (a1.Stack.map (cInt .i64))), (2, 36, .ptr 1 1 4 0 3), (1, 35, .rows (a0.Sites.map TSite.cells)), (0, 34, .ptr 0 1 10 0 7)] [(15, 4, ⟨4, [[i6 ((rdl a0.Sites (rdl a1.Stack 0)).Back), .own 5 t2_4.length, u6 a1.Marks, .rows ((cutl t2_9 1 (t2_9.length : Int)).map (cInt .i64))]], 0, none⟩), (13, 4, ⟨4, [[i6 ((rdl a0.Sites (rdl a1.Stack 0)).Back), .own 5 t2_4.length, u6 a1.Marks, .rows (t2_9.map (cInt .i64))]], 0, none⟩)] [[], [0], [], [2], [3, 2], [4, 3, 2], [1, 0, 5, 4, 3, 2], [6, 1, 0, 5, 4, 3, 2], [7, 6, 1, 0, 5, 4, 3, 2], [], [9], [10, 9], [0, 1, 2, 3, 4, 5, 6, 7, 8, 9, 10], [12, 0, 1, 2, 3, 4, 5, 6, 7, 8, 9, 10], [0, 1, 2, 3, 4, 5, 6, 7, 8, 9, 10, 11, 12, 13], [14, 0, 1, 2, 3, 4, 5, 6, 7, 8, 9, 10, 11, 12, 13]] (by rfl) (by rfl) (by rfl) (by exact ⟨oP (fun _ => faP fa29_7 q) q, oP (fun _ => ldP q sz25 ag25 q) q, oP (fun _ => faP fa33_3 q) q, oP (fun _ => ldP q sz23 ag23 q) q, oP (fun _ => ixR (l := a1.Stack) (lit := (cInt .i64)) sl23 q q (fun _ => q) g6_4.1 g6_4.2) q, oP (fun _ => ldC q sz3 ag3 q) q, oP (fun _ => ixR (l := a0.Sites) (lit := TSite.lit) sl25 q q (fun _ => q) g6_6.1 g6_6.2) q, oP (fun _ => faC fa70_3 q) q, oP (fun _ => ldC q sz3 ag3 q) q, oP (fun _ => faP fa33_3 q) q, oP (fun _ => ldP q sz23 ag23 q) q, oP (fun _ => slR (l := t2_9) (v := Int.toNat 1) sl23 q (bound_some q g6_11.1) bound_nl (cut_le' g6_11) (Nat.le_refl _)) q, oP (fun _ => faP fa33_0 q) q, fun S hS hD hn => .one0 0 q q (stB (cs0 := [i6 a1.Node, .own 5 t2_4.length, u6 a1.Marks, .rows (t2_9.map (cInt .i64))]) (cs := [i6 ((rdl a0.Sites (rdl a1.Stack 0)).Back)]) (cs1 := [i6 ((rdl a0.Sites (rdl a1.Stack 0)).Back), .own 5 t2_4.length, u6 a1.Marks, .rows (t2_9.map (cInt .i64))]) q q sz3 q ⟨Nat.le_of_ble_eq_true q, q⟩ q) (drawE_other _ _ _ _ q) q, oP (fun _ => faP fa33_3 q) q, fun S hS hD hn => .one0 0 q q (stB (cs0 := [i6 ((rdl a0.Sites (rdl a1.Stack 0)).Back), .own 5 t2_4.length, u6 a1.Marks, .rows (t2_9.map (cInt .i64))]) (cs := [.rows ((cutl t2_9 1 (t2_9.length : Int)).map (cInt .i64))]) (cs1 := [i6 ((rdl a0.Sites (rdl a1.Stack 0)).Back), .own 5 t2_4.length, u6 a1.Marks, .rows ((cutl t2_9 1 (t2_9.length : Int)).map (cInt .i64))]) q q sz23 q ⟨Nat.le_of_ble_eq_true q, q⟩ q) (drawE_other _ _ _ _ q) q, trivial⟩) _ (by exact ⟨.ptr q, .ptr q, trivial⟩) (by rfl)
      refine .seq<|.reg0 q (.o (ldG q sz33 ag33 q)<|.o (stB (cs0 := GE_c0) (cs := [i6 ((rdl a0.Sites (rdl a1.Stack 0)).Back), .own 5 t2_4.length, u6 a1.Marks, .rows ((cutl t2_9 1 (t2_9.length : Int)).map (cInt .i64))]) (cs1 := [i6 ((rdl a0.Sites (rdl a1.Stack 0)).Back), .own 5 t2_4.length, u6 a1.Marks, .rows ((cutl t2_9 1 (t2_9.length : Int)).map (cInt .i64))]) q q sz33 q ⟨Nat.le_of_ble_eq_true q, q⟩ q)<|.o (asV q)<|.nil0) ?_
      replace h := h.symm
      subst h
      refine .k [(6, .cptr [i6 ((rdl a0.Sites (rdl a1.Stack 0)).Back), .rows (t2_4.map (cInt .i64)), u6 a1.Marks, .rows ((cutl t2_9 1 (t2_9.length : Int)).map (cInt .i64))] 0), (7, i6 0)] ⟨cFixP q q (.cons (.free q q)<|.cons (cFixO (l := t2_4) sl30 q q q q)<|.cons (.free q q)<|.cons (.free q q)<|.nil), .free q q, trivial⟩ ?_
      exact .ret q
  · rw [if_neg c1] at h
    refine .condF q (bn c1)<|.skip<|.seq<|.seq ?_
    refine .reg0 (e1 := listEnv [(3, .ptr 0 1 10 0 0), (4, .ptr 1 1 4 0 0), (5, .ptr 2 1 2 0 0), (6, .ptr 3 1 4 0 0), (8, .ptr 4 1 4 0 0), (59, bo ((decide (a2.Step < 0)) || (decide (a2.Step ≥ (a0.Steps.length : Int)))))]) (H1 := [⟨10, [(TGraph.lit a0)], 0, none⟩, ⟨4, [(TState.lit a1)], 0, none⟩, ⟨2, [(TMove.lit a2)], 0, none⟩, ⟨4, [GE_c0], 0, none⟩, ⟨4, [[i6 a1.Node, .own 5 t2_4.length, u6 a1.Marks, .rows (t2_9.map (cInt .i64))]], 0, none⟩, ⟨1, t2_4.map (cInt .i64), 0, none⟩]) q ?_ ?_
    · refine .o (faP fa54_0 q)<|.o (ldP q sz3 ag3 q)<|.o (ltI q q)<|.m q<|?_
      by_cases c4 : a2.Step < 0
      · exact (.n q (dt c4)<|.n q (dt c4)<|.n q (dt c4)<|.n q (dt c4)<|.n q (dt c4)<|.n q (dt c4)<|.o (pkTV q (dt c4) q)<|.nilL _ ⟨.ptr q, .ptr q, .ptr q, .ptr q, .ptr q, cB q (mOrT (dt c4)), trivial⟩)
      · exact (.g q (df c4) (faP fa54_0 q)<|.g q (df c4) (ldP q sz3 ag3 q)<|.g q (df c4) (faP fa29_6 q)<|.g q (df c4) (ldP q sz24 ag24 q)<|.g q (df c4) (lnR (l := a0.Steps) sl24 q)<|.g q (df c4) (geI q q)<|.o (pkFV q (df c4) q)<|.nilL _ ⟨.ptr q, .ptr q, .ptr q, .ptr q, .ptr q, cB q (mOrF (df c4) q), trivial⟩)
    by_cases c5 : ((decide (a2.Step < 0)) || (decide (a2.Step ≥ (a0.Steps.length : Int)))) = true
    · rw [if_pos c5] at h
      refine .condT q c5<|.seq<|.reg0 q (.o (bldS (cs := GE_c0) ze33 pl33 q q)<|.o (stB (cs0 := GE_c0) (cs := GE_c0) (cs1 := GE_c0) q q sz33 q ⟨Nat.le_of_ble_eq_true q, q⟩ q)<|.o (asV q)<|.nil0) ?_
      replace h := h.symm
      subst h
      refine .k [(6, .cptr GE_c1 0), (7, i6 221)] ⟨cFixP q q (.cons (.free q q)<|.cons (.nil)<|.cons (.free q q)<|.cons (.nil)<|.nil), .free q q, trivial⟩ ?_
      exact .ret q
    · rw [if_neg c5] at h
      refine .condF q (nb c5)<|.skip<|.seq ?_
      obtain ⟨g10_4, h⟩ := h
      refine .room 0<|.reg0 q (.o (faP fa29_6 q)<|.o (ldP q sz24 ag24 q)<|.o (faP fa54_0 q)<|.o (ldP q sz3 ag3 q)<|.o (ixR (l := a0.Steps) (lit := TStep.lit) sl24 q q (fun _ => q) g10_4.1 g10_4.2)<|.o (ldCG q sz65 ag65 q)<|.op 6 q (alP (s := 7) ze65 ⟨q, by decide, q⟩ q)<|.o (stB (cs0 := [i6 0, i6 0, i6 0, i6 0, i6 0, i6 0, i6 0]) (cs := (TStep.lit (rdl a0.Steps a2.Step))) (cs1 := (TStep.lit (rdl a0.Steps a2.Step))) q q sz65 q ⟨Nat.le_of_ble_eq_true q, q⟩ q)<|.nil0) ?_
      refine .seq<|.seq ?_
      refine .reg0 (e1 := listEnv [(3, .ptr 0 1 10 0 0), (4, .ptr 1 1 4 0 0), (5, .ptr 2 1 2 0 0), (6, .ptr 3 1 4 0 0), (8, .ptr 4 1 4 0 0), (9, .ptr 6 1 7 0 0), (81, bo ((!((rdl a0.Steps a2.Step).From == a1.Node)) || ((!(a2.Draw == 0)) && ((rdl a0.Steps a2.Step).Kind != 4))))]) (H1 := [⟨10, [(TGraph.lit a0)], 0, none⟩, ⟨4, [(TState.lit a1)], 0, none⟩, ⟨2, [(TMove.lit a2)], 0, none⟩, ⟨4, [GE_c0], 0, none⟩, ⟨4, [[i6 a1.Node, .own 5 t2_4.length, u6 a1.Marks, .rows (t2_9.map (cInt .i64))]], 0, none⟩, ⟨1, t2_4.map (cInt .i64), 0, none⟩, ⟨7, [(TStep.lit (rdl a0.Steps a2.Step))], 0, none⟩]) q ?_ ?_
      · refine .o (faP fa65_0 q)<|.o (ldP q sz3 ag3 q)<|.o (faP fa33_0 q)<|.o (ldP q sz3 ag3 q)<|.o (neI q q)<|.m q<|?_
        by_cases c6 : (rdl a0.Steps a2.Step).From = a1.Node
        · refine .g q (nf c6) (faP fa54_1 q)<|.g q (nf c6) (ldP q sz2 ag2 q)<|.g q (nf c6) (neI q q)<|.g q (nf c6) (mvV q)<|?_
          by_cases c7 : a2.Draw = 0
          · exact (.n q (nf c7)<|.n q (nf c7)<|.n q (nf c7)<|.g q (nf c6) (pkFV q (nf c7) q)<|.o (pkFV q (nf c6) q)<|.nilL _ ⟨.ptr q, .ptr q, .ptr q, .ptr q, .ptr q, .ptr q, cB q (mOrF (bnotF (bt c6)) (mAndF (bnotF (bt c7)))), trivial⟩)
          · exact (.g q (nt c7) (faP fa65_2 q)<|.g q (nt c7) (ldP q sz63 ag63 q)<|.g q (nt c7) (neI q q)<|.g q (nf c6) (pkTV q (nt c7) q)<|.o (pkFV q (nf c6) q)<|.nilL _ ⟨.ptr q, .ptr q, .ptr q, .ptr q, .ptr q, .ptr q, cB q (mOrF (bnotF (bt c6)) (mAndT (bnotT (bn c7)) q)), trivial⟩)
        · exact (.n q (nt c6)<|.n q (nt c6)<|.n q (nt c6)<|.n q (nt c6)<|.u q<|.u q<|.u q<|.n q (nt c6)<|.o (pkTV q (nt c6) q)<|.nilL _ ⟨.ptr q, .ptr q, .ptr q, .ptr q, .ptr q, .ptr q, cB q (mOrT (bnotT (bn c6))), trivial⟩)
      by_cases c8 : ((!((rdl a0.Steps a2.Step).From == a1.Node)) || ((!(a2.Draw == 0)) && ((rdl a0.Steps a2.Step).Kind != 4))) = true
      · rw [if_pos c8] at h
        refine .condT q c8<|.seq<|.reg0 q (.o (bldS (cs := GE_c0) ze33 pl33 q q)<|.o (stB (cs0 := GE_c0) (cs := GE_c0) (cs1 := GE_c0) q q sz33 q ⟨Nat.le_of_ble_eq_true q, q⟩ q)<|.o (asV q)<|.nil0) ?_
        replace h := h.symm
        subst h
        refine .k [(6, .cptr GE_c1 0), (7, i6 221)] ⟨cFixP q q (.cons (.free q q)<|.cons (.nil)<|.cons (.free q q)<|.cons (.nil)<|.nil), .free q q, trivial⟩ ?_
        exact .ret q
      · rw [if_neg c8] at h
        refine .condF q (nb c8)<|.skip<|.seq<|.reg0 q (.o (faP fa65_1 q)<|.o (ldP q sz3 ag3 q)<|.o (faP fa33_0 q)<|.o (stB (cs0 := [i6 a1.Node, .own 5 t2_4.length, u6 a1.Marks, .rows (t2_9.map (cInt .i64))]) (cs := [i6 ((rdl a0.Steps a2.Step).To)]) (cs1 := [i6 ((rdl a0.Steps a2.Step).To), .own 5 t2_4.length, u6 a1.Marks, .rows (t2_9.map (cInt .i64))]) q q sz3 q ⟨Nat.le_of_ble_eq_true q, q⟩ q)<|.nil0) ?_
        refine .seq<|.seq<|.reg0 q (.o (faP fa65_2 q)<|.o (ldP q sz63 ag63 q)<|.nil0)<|.block<|.seq<|.block<|.seq ?_
        refine .consJ (fun s_ => frames_do.j1 a0 a1 a2 t2_4 t2_9 s_ r) (fun _ => listEnv [(6, .ptr 0 1 4 0 0), (8, .ptr 1 1 4 0 0), (9, .ptr 3 1 7 0 0)]) (fun _ => [⟨4, [GE_c0], 0, none⟩, ⟨4, [[i6 ((rdl a0.Steps a2.Step).To), .own 2 t2_4.length, u6 a1.Marks, .rows (t2_9.map (cInt .i64))]], 0, none⟩, ⟨1, t2_4.map (cInt .i64), 0, none⟩, ⟨7, [(TStep.lit (rdl a0.Steps a2.Step))], 0, none⟩]) ?_ fun hJ1 => ?_
        · rintro ⟨⟩ h
          unfold frames_do.j1 at h
          try dsimp only at h
          refine .seq ?_
          obtain ⟨t33_7, g33_7, h⟩ := h
          refine .reg0 q (.o (faP fa33_2 q)<|.o (ldP q sz31 ag31 q)<|.o (faP fa65_3 q)<|.o (ldP q sz3 ag3 q)<|.o (faP fa65_2 q)<|.o (ldP q sz63 ag63 q)<|.o (eqI q q)<|.c q go54 q q q (frames_set.D g33_7)<|.o (faP fa33_2 q)<|.o (stB (cs0 := [i6 ((rdl a0.Steps a2.Step).To), .own 2 t2_4.length, u6 a1.Marks, .rows (t2_9.map (cInt .i64))]) (cs := [u6 t33_7]) (cs1 := [i6 ((rdl a0.Steps a2.Step).To), .own 2 t2_4.length, u6 t33_7, .rows (t2_9.map (cInt .i64))]) q q sz31 q ⟨Nat.le_of_ble_eq_true q, q⟩ q)<|.nil0) ?_
          refine .exit q<|.seq<|.reg0 q (.o (ldG q sz33 ag33 q)<|.o (stB (cs0 := GE_c0) (cs := [i6 ((rdl a0.Steps a2.Step).To), .own 2 t2_4.length, u6 t33_7, .rows (t2_9.map (cInt .i64))]) (cs1 := [i6 ((rdl a0.Steps a2.Step).To), .own 2 t2_4.length, u6 t33_7, .rows (t2_9.map (cInt .i64))]) q q sz33 q ⟨Nat.le_of_ble_eq_true q, q⟩ q)<|.o (asV q)<|.nil0) ?_
          replace h := h.symm
          subst h
          refine .k [(6, .cptr [i6 ((rdl a0.Steps a2.Step).To), .rows (t2_4.map (cInt .i64)), u6 t33_7, .rows (t2_9.map (cInt .i64))] 0), (7, i6 0)] ⟨cFixP q q (.cons (.free q q)<|.cons (cFixO (l := t2_4) sl30 q q q q)<|.cons (.free q q)<|.cons (.free q q)<|.nil), .free q q, trivial⟩ ?_
          exact .ret q
        · refine .block<|.block<|.seq<|.block<|.seq<|.block<|.seq<|.block<|.seq<|.seq<|.seq<|.reg0 q (.o (eqI q q)<|.o (asV q)<|.nil0) ?_
          by_cases c16 : (rdl a0.Steps a2.Step).Kind = 2
          · rw [if_pos c16] at h
            refine .condT q (bt c16)<|.exit q<|.seq ?_
            obtain ⟨t36_10, g36_10, h⟩ := h
            obtain ⟨g36_11, h⟩ := h
            refine .reg1 (e1 := listEnv [(6, .ptr 3 1 4 0 0), (8, .ptr 4 1 4 0 0)]) (H1 := [⟨10, [(TGraph.lit a0)], 0, none⟩, ⟨4, [(TState.lit a1)], 0, none⟩, ⟨2, [(TMove.lit a2)], 0, none⟩, ⟨4, [GE_c0], 0, none⟩, ⟨4, [[i6 ((rdl a0.Steps a2.Step).To), .own 5 t2_4.length, u6 t36_10, .rows (t2_9.map (cInt .i64))]], 0, none⟩, ⟨1, (setl t2_4 ((rdl a0.Steps a2.Step).X) ((rdl a0.Steps a2.Step).K)).map (cInt .i64), 0, none⟩, ⟨7, [(TStep.lit (rdl a0.Steps a2.Step))], 0, none⟩]) q ?_ ?_
            · exact .drawM [(13, 112, .ptr 4 1 4 0 2), (11, 111, .ptr 5 t2_4.length 1 (Int.toNat ((rdl a0.Steps a2.Step).X)) 0), (10, 110, u6 t36_10), (9, 109, i6 ((rdl a0.Steps a2.Step).X)), (8, 108, .ptr 6 1 7 0 3), (7, 107, u6 a1.Marks), (6, 106, .ptr 4 1 4 0 2), (5, 105, i6 ((rdl a0.Steps a2.Step).K)), (4, 104, .ptr 6 1 7 0 5), (3, 103, i6 ((rdl a0.Steps a2.Step).X)), (2, 102, .ptr 6 1 7 0 3), (1, 101, .own 5 t2_4.length), (0, 100, .ptr 4 1 4 0 1)] [(14, 4, ⟨4, [[i6 ((rdl a0.Steps a2.Step).To), .own 5 t2_4.length, u6 t36_10, .rows (t2_9.map (cInt .i64))]], 0, none⟩), (12, 5, ⟨1, (setl t2_4 ((rdl a0.Steps a2.Step).X) ((rdl a0.Steps a2.Step).K)).map (cInt .i64), 0, none⟩)] GE_A0 (by rfl) (by rfl) (by rfl) (by exact ⟨oP (fun _ => faP fa33_1 q) q, oP (fun _ => ldP q sz30 ag30 q) q, oP (fun _ => faP fa65_3 q) q, oP (fun _ => ldP q sz3 ag3 q) q, oP (fun _ => faP fa65_5 q) q, oP (fun _ => ldP q sz2 ag2 q) q, oP (fun _ => faP fa33_2 q) q, oP (fun _ => ldP q sz31 ag31 q) q, oP (fun _ => faP fa65_3 q) q, oP (fun _ => ldP q sz3 ag3 q) q, fun S hS hD hn => .oneI hS hD hn q q (callee_of q go54 q) (.pure q q (frames_set.D g36_10)) q q q, oP (fun _ => ixO (l := t2_4) sl30 q q q q g36_11.1 g36_11.2) q, fun S hS hD hn => .one0 0 q q (stO (l := t2_4) (j := ((rdl a0.Steps a2.Step).X)) (cs := [i6 ((rdl a0.Steps a2.Step).K)]) ((rdl a0.Steps a2.Step).K) sl30 q q sz2 q q g36_11.1 g36_11.2 (Nat.zero_le _) ⟨Nat.le_of_ble_eq_true q, q⟩ q) (drawE_other _ _ _ _ q) q, oP (fun _ => faP fa33_2 q) q, fun S hS hD hn => .one0 0 q q (stB (cs0 := [i6 ((rdl a0.Steps a2.Step).To), .own 5 t2_4.length, u6 a1.Marks, .rows (t2_9.map (cInt .i64))]) (cs := [u6 t36_10]) (cs1 := [i6 ((rdl a0.Steps a2.Step).To), .own 5 t2_4.length, u6 t36_10, .rows (t2_9.map (cInt .i64))]) q q sz31 q ⟨Nat.le_of_ble_eq_true q, q⟩ q) (drawE_other _ _ _ _ q) q, trivial⟩) _ (by exact ⟨.ptr q, .ptr q, trivial⟩) (by rfl)
            refine .exit q<|.seq<|.reg0 q (.o (ldG q sz33 ag33 q)<|.o (stB (cs0 := GE_c0) (cs := [i6 ((rdl a0.Steps a2.Step).To), .own 5 t2_4.length, u6 t36_10, .rows (t2_9.map (cInt .i64))]) (cs1 := [i6 ((rdl a0.Steps a2.Step).To), .own 5 t2_4.length, u6 t36_10, .rows (t2_9.map (cInt .i64))]) q q sz33 q ⟨Nat.le_of_ble_eq_true q, q⟩ q)<|.o (asV q)<|.nil0) ?_
            replace h := h.symm
            subst h
            refine .k [(6, .cptr [i6 ((rdl a0.Steps a2.Step).To), .rows ((setl t2_4 ((rdl a0.Steps a2.Step).X) ((rdl a0.Steps a2.Step).K)).map (cInt .i64)), u6 t36_10, .rows (t2_9.map (cInt .i64))] 0), (7, i6 0)] ⟨cFixP q q (.cons (.free q q)<|.cons (cFixO (l := (setl t2_4 ((rdl a0.Steps a2.Step).X) ((rdl a0.Steps a2.Step).K))) sl30 q q (by simp only [setl, List.length_set]) q)<|.cons (.free q q)<|.cons (.free q q)<|.nil), .free q q, trivial⟩ ?_
            exact .ret q
          · rw [if_neg c16] at h
            refine .condF q (bn c16)<|.skip<|.seq<|.seq<|.reg0 q (.o (eqI q q)<|.o (asV q)<|.nil0) ?_
            by_cases c17 : (rdl a0.Steps a2.Step).Kind = 4
            · rw [if_pos c17] at h
              refine .condT q (bt c17)<|.exit q<|.seq ?_
              obtain ⟨t39_10, g39_10, h⟩ := h
              obtain ⟨g39_11, h⟩ := h
              refine .reg1 (e1 := listEnv [(6, .ptr 3 1 4 0 0), (8, .ptr 4 1 4 0 0)]) (H1 := [⟨10, [(TGraph.lit a0)], 0, none⟩, ⟨4, [(TState.lit a1)], 0, none⟩, ⟨2, [(TMove.lit a2)], 0, none⟩, ⟨4, [GE_c0], 0, none⟩, ⟨4, [[i6 ((rdl a0.Steps a2.Step).To), .own 5 t2_4.length, u6 t39_10, .rows (t2_9.map (cInt .i64))]], 0, none⟩, ⟨1, (setl t2_4 ((rdl a0.Steps a2.Step).X) a2.Draw).map (cInt .i64), 0, none⟩, ⟨7, [(TStep.lit (rdl a0.Steps a2.Step))], 0, none⟩]) q ?_ ?_
              · exact .drawM [(13, 125, .ptr 4 1 4 0 2), (11, 124, .ptr 5 t2_4.length 1 (Int.toNat ((rdl a0.Steps a2.Step).X)) 0), (10, 123, u6 t39_10), (9, 122, i6 ((rdl a0.Steps a2.Step).X)), (8, 121, .ptr 6 1 7 0 3), (7, 120, u6 a1.Marks), (6, 119, .ptr 4 1 4 0 2), (5, 118, i6 a2.Draw), (4, 117, .ptr 2 1 2 0 1), (3, 116, i6 ((rdl a0.Steps a2.Step).X)), (2, 115, .ptr 6 1 7 0 3), (1, 114, .own 5 t2_4.length), (0, 113, .ptr 4 1 4 0 1)] [(14, 4, ⟨4, [[i6 ((rdl a0.Steps a2.Step).To), .own 5 t2_4.length, u6 t39_10, .rows (t2_9.map (cInt .i64))]], 0, none⟩), (12, 5, ⟨1, (setl t2_4 ((rdl a0.Steps a2.Step).X) a2.Draw).map (cInt .i64), 0, none⟩)] GE_A0 (by rfl) (by rfl) (by rfl) (by exact ⟨oP (fun _ => faP fa33_1 q) q, oP (fun _ => ldP q sz30 ag30 q) q, oP (fun _ => faP fa65_3 q) q, oP (fun _ => ldP q sz3 ag3 q) q, oP (fun _ => faP fa54_1 q) q, oP (fun _ => ldP q sz2 ag2 q) q, oP (fun _ => faP fa33_2 q) q, oP (fun _ => ldP q sz31 ag31 q) q, oP (fun _ => faP fa65_3 q) q, oP (fun _ => ldP q sz3 ag3 q) q, fun S hS hD hn => .oneI hS hD hn q q (callee_of q go54 q) (.pure q q (frames_set.D g39_10)) q q q, oP (fun _ => ixO (l := t2_4) sl30 q q q q g39_11.1 g39_11.2) q, fun S hS hD hn => .one0 0 q q (stO (l := t2_4) (j := ((rdl a0.Steps a2.Step).X)) (cs := [i6 a2.Draw]) a2.Draw sl30 q q sz2 q q g39_11.1 g39_11.2 (Nat.zero_le _) ⟨Nat.le_of_ble_eq_true q, q⟩ q) (drawE_other _ _ _ _ q) q, oP (fun _ => faP fa33_2 q) q, fun S hS hD hn => .one0 0 q q (stB (cs0 := [i6 ((rdl a0.Steps a2.Step).To), .own 5 t2_4.length, u6 a1.Marks, .rows (t2_9.map (cInt .i64))]) (cs := [u6 t39_10]) (cs1 := [i6 ((rdl a0.Steps a2.Step).To), .own 5 t2_4.length, u6 t39_10, .rows (t2_9.map (cInt .i64))]) q q sz31 q ⟨Nat.le_of_ble_eq_true q, q⟩ q) (drawE_other _ _ _ _ q) q, trivial⟩) _ (by exact ⟨.ptr q, .ptr q, trivial⟩) (by rfl)
              refine .exit q<|.seq<|.reg0 q (.o (ldG q sz33 ag33 q)<|.o (stB (cs0 := GE_c0) (cs := [i6 ((rdl a0.Steps a2.Step).To), .own 5 t2_4.length, u6 t39_10, .rows (t2_9.map (cInt .i64))]) (cs1 := [i6 ((rdl a0.Steps a2.Step).To), .own 5 t2_4.length, u6 t39_10, .rows (t2_9.map (cInt .i64))]) q q sz33 q ⟨Nat.le_of_ble_eq_true q, q⟩ q)<|.o (asV q)<|.nil0) ?_
              replace h := h.symm
              subst h
              refine .k [(6, .cptr [i6 ((rdl a0.Steps a2.Step).To), .rows ((setl t2_4 ((rdl a0.Steps a2.Step).X) a2.Draw).map (cInt .i64)), u6 t39_10, .rows (t2_9.map (cInt .i64))] 0), (7, i6 0)] ⟨cFixP q q (.cons (.free q q)<|.cons (cFixO (l := (setl t2_4 ((rdl a0.Steps a2.Step).X) a2.Draw)) sl30 q q (by simp only [setl, List.length_set]) q)<|.cons (.free q q)<|.cons (.free q q)<|.nil), .free q q, trivial⟩ ?_
              exact .ret q
            · rw [if_neg c17] at h
              refine .condF q (bn c17)<|.skip<|.seq<|.seq<|.reg0 q (.o (eqI q q)<|.o (asV q)<|.nil0) ?_
              by_cases c18 : (rdl a0.Steps a2.Step).Kind = 3
              · rw [if_pos c18] at h
                refine .condT q (bt c18)<|.exit q<|.seq ?_
                obtain ⟨g42_8, h⟩ := h
                obtain ⟨g42_18, h⟩ := h
                obtain ⟨t42_21, g42_21, h⟩ := h
                obtain ⟨g42_22, h⟩ := h
                refine .reg1 (e1 := listEnv [(6, .ptr 3 1 4 0 0), (8, .ptr 4 1 4 0 0)]) (H1 := [⟨10, [(TGraph.lit a0)], 0, none⟩, ⟨4, [(TState.lit a1)], 0, none⟩, ⟨2, [(TMove.lit a2)], 0, none⟩, ⟨4, [GE_c0], 0, none⟩, ⟨4, [[i6 ((rdl a0.Steps a2.Step).To), .own 5 t2_4.length, u6 t42_21, .rows (t2_9.map (cInt .i64))]], 0, none⟩, ⟨1, (setl t2_4 ((rdl a0.Steps a2.Step).X) (rdl a1.Env ((rdl a0.Steps a2.Step).Y))).map (cInt .i64), 0, none⟩, ⟨7, [(TStep.lit (rdl a0.Steps a2.Step))], 0, none⟩]) q ?_ ?_
                · exact .drawM [(24, 149, .ptr 4 1 4 0 2), (22, 148, .ptr 5 t2_4.length 1 (Int.toNat ((rdl a0.Steps a2.Step).X)) 0), (21, 147, u6 t42_21), (20, 146, bo ((bitOp .and .u64 (shrI .u64 a1.Marks ((rdl a0.Steps a2.Step).Y)) 1) == 1)), (19, 145, u6 (bitOp .and .u64 (shrI .u64 a1.Marks ((rdl a0.Steps a2.Step).Y)) 1)), (18, 144, u6 (shrI .u64 a1.Marks ((rdl a0.Steps a2.Step).Y))), (17, 143, i6 ((rdl a0.Steps a2.Step).Y)), (16, 142, .ptr 6 1 7 0 4), (15, 141, u6 a1.Marks), (14, 140, .ptr 1 1 4 0 2), (13, 139, i6 ((rdl a0.Steps a2.Step).X)), (12, 138, .ptr 6 1 7 0 3), (11, 137, u6 a1.Marks), (10, 136, .ptr 4 1 4 0 2), (9, 135, i6 (rdl a1.Env ((rdl a0.Steps a2.Step).Y))), (8, 134, .cptr ((cInt .i64) (rdl a1.Env ((rdl a0.Steps a2.Step).Y))) 0), (7, 133, i6 ((rdl a0.Steps a2.Step).Y)), (6, 132, .ptr 6 1 7 0 4), (5, 131, .rows (a1.Env.map (cInt .i64))), (4, 130, .ptr 1 1 4 0 1), (3, 129, i6 ((rdl a0.Steps a2.Step).X)), (2, 128, .ptr 6 1 7 0 3), (1, 127, .own 5 t2_4.length), (0, 126, .ptr 4 1 4 0 1)] [(25, 4, ⟨4, [[i6 ((rdl a0.Steps a2.Step).To), .own 5 t2_4.length, u6 t42_21, .rows (t2_9.map (cInt .i64))]], 0, none⟩), (23, 5, ⟨1, (setl t2_4 ((rdl a0.Steps a2.Step).X) (rdl a1.Env ((rdl a0.Steps a2.Step).Y))).map (cInt .i64), 0, none⟩)] [[], [0], [], [2], [], [4], [], [6], [5, 4, 7, 6], [8, 5, 4, 7, 6], [], [10], [], [12], [], [14], [], [16], [15, 14, 17, 16], [18, 15, 14, 17, 16], [19, 18, 15, 14, 17, 16], [11, 10, 13, 12, 20, 19, 18, 15, 14, 17, 16], [1, 0, 3, 2, 4, 5, 6, 7, 8, 9, 21, 11, 10, 13, 12, 20, 19, 18, 15, 14, 17, 16], [22, 1, 0, 3, 2, 4, 5, 6, 7, 8, 9, 21, 11, 10, 13, 12, 20, 19, 18, 15, 14, 17, 16], [0, 1, 2, 3, 4, 5, 6, 7, 8, 9, 10, 11, 12, 13, 14, 15, 16, 17, 18, 19, 20, 21, 22, 23], [24, 0, 1, 2, 3, 4, 5, 6, 7, 8, 9, 10, 11, 12, 13, 14, 15, 16, 17, 18, 19, 20, 21, 22, 23]] (by rfl) (by rfl) (by rfl) (by exact ⟨oP (fun _ => faP fa33_1 q) q, oP (fun _ => ldP q sz30 ag30 q) q, oP (fun _ => faP fa65_3 q) q, oP (fun _ => ldP q sz3 ag3 q) q, oP (fun _ => faP fa33_1 q) q, oP (fun _ => ldP q sz30 ag30 q) q, oP (fun _ => faP fa65_4 q) q, oP (fun _ => ldP q sz3 ag3 q) q, oP (fun _ => ixR (l := a1.Env) (lit := (cInt .i64)) sl30 q q (fun _ => q) g42_8.1 g42_8.2) q, oP (fun _ => ldC q sz2 ag2 q) q, oP (fun _ => faP fa33_2 q) q, oP (fun _ => ldP q sz31 ag31 q) q, oP (fun _ => faP fa65_3 q) q, oP (fun _ => ldP q sz3 ag3 q) q, oP (fun _ => faP fa33_2 q) q, oP (fun _ => ldP q sz31 ag31 q) q, oP (fun _ => faP fa65_4 q) q, oP (fun _ => ldP q sz3 ag3 q) q, oP (fun _ => shr_ q q g42_18) q, oP (fun _ => andI q q) q, oP (fun _ => eqI q q) q, fun S hS hD hn => .oneI hS hD hn q q (callee_of q go54 q) (.pure q q (frames_set.D g42_21)) q q q, oP (fun _ => ixO (l := t2_4) sl30 q q q q g42_22.1 g42_22.2) q, fun S hS hD hn => .one0 0 q q (stO (l := t2_4) (j := ((rdl a0.Steps a2.Step).X)) (cs := [i6 (rdl a1.Env ((rdl a0.Steps a2.Step).Y))]) (rdl a1.Env ((rdl a0.Steps a2.Step).Y)) sl30 q q sz2 q q g42_22.1 g42_22.2 (Nat.zero_le _) ⟨Nat.le_of_ble_eq_true q, q⟩ q) (drawE_other _ _ _ _ q) q, oP (fun _ => faP fa33_2 q) q, fun S hS hD hn => .one0 0 q q (stB (cs0 := [i6 ((rdl a0.Steps a2.Step).To), .own 5 t2_4.length, u6 a1.Marks, .rows (t2_9.map (cInt .i64))]) (cs := [u6 t42_21]) (cs1 := [i6 ((rdl a0.Steps a2.Step).To), .own 5 t2_4.length, u6 t42_21, .rows (t2_9.map (cInt .i64))]) q q sz31 q ⟨Nat.le_of_ble_eq_true q, q⟩ q) (drawE_other _ _ _ _ q) q, trivial⟩) _ (by exact ⟨.ptr q, .ptr q, trivial⟩) (by rfl)
                refine .exit q<|.seq<|.reg0 q (.o (ldG q sz33 ag33 q)<|.o (stB (cs0 := GE_c0) (cs := [i6 ((rdl a0.Steps a2.Step).To), .own 5 t2_4.length, u6 t42_21, .rows (t2_9.map (cInt .i64))]) (cs1 := [i6 ((rdl a0.Steps a2.Step).To), .own 5 t2_4.length, u6 t42_21, .rows (t2_9.map (cInt .i64))]) q q sz33 q ⟨Nat.le_of_ble_eq_true q, q⟩ q)<|.o (asV q)<|.nil0) ?_
                replace h := h.symm
                subst h
                refine .k [(6, .cptr [i6 ((rdl a0.Steps a2.Step).To), .rows ((setl t2_4 ((rdl a0.Steps a2.Step).X) (rdl a1.Env ((rdl a0.Steps a2.Step).Y))).map (cInt .i64)), u6 t42_21, .rows (t2_9.map (cInt .i64))] 0), (7, i6 0)] ⟨cFixP q q (.cons (.free q q)<|.cons (cFixO (l := (setl t2_4 ((rdl a0.Steps a2.Step).X) (rdl a1.Env ((rdl a0.Steps a2.Step).Y)))) sl30 q q (by simp only [setl, List.length_set]) q)<|.cons (.free q q)<|.cons (.free q q)<|.nil), .free q q, trivial⟩ ?_
                exact .ret q
              · rw [if_neg c18] at h
                refine .condF q (bn c18)<|.skip<|.seq<|.seq<|.reg0 q (.o (eqI q q)<|.o (asV q)<|.nil0) ?_
                by_cases c19 : (rdl a0.Steps a2.Step).Kind = 5
                · rw [if_pos c19] at h
                  refine .condT q (bt c19)<|.exit q<|.inBlock<|.keepL [3, 4, 5, 6] [(6, .ptr 0 1 4 0 0), (8, .ptr 1 1 4 0 0), (9, .ptr 3 1 7 0 0)] [⟨4, [GE_c0], 0, none⟩, ⟨4, [[i6 ((rdl a0.Steps a2.Step).To), .own 2 t2_4.length, u6 a1.Marks, .rows (t2_9.map (cInt .i64))]], 0, none⟩, ⟨1, t2_4.map (cInt .i64), 0, none⟩, ⟨7, [(TStep.lit (rdl a0.Steps a2.Step))], 0, none⟩] (by decide) (by decide) ⟨.ptr q, .ptr q, .ptr q, trivial⟩ ⟨⟨_, q, bcBox (all2_free q)⟩, ⟨_, q, bcBox (.cons (.free q q)<|.cons (.own q)<|.cons (.free q q)<|.cons (.free q q)<|.nil)⟩, ⟨_, q, bcRow (l := t2_4) sl30 (Nat.le_refl _) q⟩, ⟨_, q, bcBox (all2_free q)⟩, trivial⟩ ?_
                  exact hJ1 _ h
                · rw [if_neg c19] at h
                  refine .condF q (bn c19)<|.skip<|.seq<|.seq<|.reg0 q (.o (eqI q q)<|.o (asV q)<|.nil0) ?_
                  by_cases c20 : (rdl a0.Steps a2.Step).Kind = 6
                  · rw [if_pos c20] at h
                    refine .condT q (bt c20)<|.exit q<|.keepL [3, 4, 5, 6] [(6, .ptr 0 1 4 0 0), (8, .ptr 1 1 4 0 0), (9, .ptr 3 1 7 0 0)] [⟨4, [GE_c0], 0, none⟩, ⟨4, [[i6 ((rdl a0.Steps a2.Step).To), .own 2 t2_4.length, u6 a1.Marks, .rows (t2_9.map (cInt .i64))]], 0, none⟩, ⟨1, t2_4.map (cInt .i64), 0, none⟩, ⟨7, [(TStep.lit (rdl a0.Steps a2.Step))], 0, none⟩] (by decide) (by decide) ⟨.ptr q, .ptr q, .ptr q, trivial⟩ ⟨⟨_, q, bcBox (all2_free q)⟩, ⟨_, q, bcBox (.cons (.free q q)<|.cons (.own q)<|.cons (.free q q)<|.cons (.free q q)<|.nil)⟩, ⟨_, q, bcRow (l := t2_4) sl30 (Nat.le_refl _) q⟩, ⟨_, q, bcBox (all2_free q)⟩, trivial⟩ ?_
                    exact hJ1 _ h
                  · rw [if_neg c20] at h
                    refine .condF q (bn c20)<|.skip<|.seq<|.reg0 q (.o (eqI q q)<|.o (asV q)<|.nil0) ?_
                    by_cases c21 : (rdl a0.Steps a2.Step).Kind = 8
                    · rw [if_pos c21] at h
                      refine .condT q (bt c21)<|.exit q<|.seq<|.seq<|.seq<|.reg0 q (.o (faP fa33_3 q)<|.o (ldP q sz23 ag23 q)<|.o (lnR (l := a1.Stack) sl23 q)<|.o (geI q q)<|.nil0) ?_
                      by_cases c22 : (a1.Stack.length : Int) ≥ 4096
                      · rw [if_pos c22] at h
                        refine .condT q (dt c22)<|.seq<|.reg0 q (.o (bldS (cs := GE_c0) ze33 pl33 q q)<|.o (stB (cs0 := GE_c0) (cs := GE_c0) (cs1 := GE_c0) q q sz33 q ⟨Nat.le_of_ble_eq_true q, q⟩ q)<|.o (asV q)<|.nil0) ?_
                        replace h := h.symm
                        subst h
                        refine .k [(6, .cptr GE_c1 0), (7, i6 2)] ⟨cFixP q q (.cons (.free q q)<|.cons (.nil)<|.cons (.free q q)<|.cons (.nil)<|.nil), .free q q, trivial⟩ ?_
                        exact .ret q
                      · rw [if_neg c22] at h
                        refine .condF q (df c22)<|.skip<|.seq ?_
                        obtain ⟨g49_6, h⟩ := h
                        obtain ⟨g49_9, h⟩ := h
                        refine .reg1 (e1 := listEnv [(6, .ptr 3 1 4 0 0), (8, .ptr 4 1 4 0 0), (9, .ptr 6 1 7 0 0)]) (H1 := [⟨10, [(TGraph.lit a0)], 0, none⟩, ⟨4, [(TState.lit a1)], 0, none⟩, ⟨2, [(TMove.lit a2)], 0, none⟩, ⟨4, [GE_c0], 0, none⟩, ⟨4, [[i6 (rdl a0.Entry ((rdl a0.Sites ((rdl a0.Steps a2.Step).Site)).Proc)), .own 5 t2_4.length, u6 a1.Marks, .rows (t2_9.map (cInt .i64))]], 0, none⟩, ⟨1, t2_4.map (cInt .i64), 0, none⟩, ⟨7, [(TStep.lit (rdl a0.Steps a2.Step))], 0, none⟩]) q ?_ ?_
                        · exact .drawM [(11, 175, .ptr 4 1 4 0 0), (10, 174, i6 (rdl a0.Entry ((rdl a0.Sites ((rdl a0.Steps a2.Step).Site)).Proc))), (9, 173, .cptr ((cInt .i64) (rdl a0.Entry ((rdl a0.Sites ((rdl a0.Steps a2.Step).Site)).Proc))) 0), (8, 172, i6 ((rdl a0.Sites ((rdl a0.Steps a2.Step).Site)).Proc)), (7, 171, .cptr (TSite.lit (rdl a0.Sites ((rdl a0.Steps a2.Step).Site))) 1), (6, 170, .cptr (TSite.lit (rdl a0.Sites ((rdl a0.Steps a2.Step).Site))) 0), (5, 169, i6 ((rdl a0.Steps a2.Step).Site)), (4, 168, .ptr 6 1 7 0 6), (3, 167, .rows (a0.Sites.map TSite.cells)), (2, 166, .ptr 0 1 10 0 7), (1, 165, .rows (a0.Entry.map (cInt .i64))), (0, 164, .ptr 0 1 10 0 2)] [(12, 4, ⟨4, [[i6 (rdl a0.Entry ((rdl a0.Sites ((rdl a0.Steps a2.Step).Site)).Proc)), .own 5 t2_4.length, u6 a1.Marks, .rows (t2_9.map (cInt .i64))]], 0, none⟩)] [[], [0], [], [2], [], [4], [3, 2, 5, 4], [6, 3, 2, 5, 4], [7, 6, 3, 2, 5, 4], [1, 0, 8, 7, 6, 3, 2, 5, 4], [9, 1, 0, 8, 7, 6, 3, 2, 5, 4], [0, 1, 2, 3, 4, 5, 6, 7, 8, 9, 10], [11, 0, 1, 2, 3, 4, 5, 6, 7, 8, 9, 10]] (by rfl) (by rfl) (by rfl) (by exact ⟨oP (fun _ => faP fa29_2 q) q, oP (fun _ => ldP q sz23 ag23 q) q, oP (fun _ => faP fa29_7 q) q, oP (fun _ => ldP q sz25 ag25 q) q, oP (fun _ => faP fa65_6 q) q, oP (fun _ => ldP q sz3 ag3 q) q, oP (fun _ => ixR (l := a0.Sites) (lit := TSite.lit) sl25 q q (fun _ => q) g49_6.1 g49_6.2) q, oP (fun _ => faC fa70_1 q) q, oP (fun _ => ldC q sz3 ag3 q) q, oP (fun _ => ixR (l := a0.Entry) (lit := (cInt .i64)) sl23 q q (fun _ => q) g49_9.1 g49_9.2) q, oP (fun _ => ldC q sz3 ag3 q) q, oP (fun _ => faP fa33_0 q) q, fun S hS hD hn => .one0 0 q q (stB (cs0 := [i6 ((rdl a0.Steps a2.Step).To), .own 5 t2_4.length, u6 a1.Marks, .rows (t2_9.map (cInt .i64))]) (cs := [i6 (rdl a0.Entry ((rdl a0.Sites ((rdl a0.Steps a2.Step).Site)).Proc))]) (cs1 := [i6 (rdl a0.Entry ((rdl a0.Sites ((rdl a0.Steps a2.Step).Site)).Proc)), .own 5 t2_4.length, u6 a1.Marks, .rows (t2_9.map (cInt .i64))]) q q sz3 q ⟨Nat.le_of_ble_eq_true q, q⟩ q) (drawE_other _ _ _ _ q) q, trivial⟩) _ (by exact ⟨.ptr q, .ptr q, .ptr q, trivial⟩) (by rfl)
                        obtain ⟨g50_5, h⟩ := h
                        refine .room 0<|.room 0<|.reg0 q (.o (faP fa65_6 q)<|.o (ldP q sz3 ag3 q)<|.op 7 q (bldL (s := 1) (cs := [i6 ((rdl a0.Steps a2.Step).Site)]) un23 sz3 ze3 ⟨by decide, q, by decide⟩ q q q q)<|.o (faP fa33_3 q)<|.o (ldP q sz23 ag23 q)<|.o (apL (l := [(rdl a0.Steps a2.Step).Site]) t2_9 sl23 q q q (Nat.zero_le _) q g50_5)<|.o (faP fa33_3 q)<|.o (stB (cs0 := [i6 (rdl a0.Entry ((rdl a0.Sites ((rdl a0.Steps a2.Step).Site)).Proc)), .own 5 t2_4.length, u6 a1.Marks, .rows (t2_9.map (cInt .i64))]) (cs := [.own 7 (([(rdl a0.Steps a2.Step).Site] ++ t2_9).length)]) (cs1 := [i6 (rdl a0.Entry ((rdl a0.Sites ((rdl a0.Steps a2.Step).Site)).Proc)), .own 5 t2_4.length, u6 a1.Marks, .own 7 (([(rdl a0.Steps a2.Step).Site] ++ t2_9).length)]) q q sz23 q ⟨Nat.le_of_ble_eq_true q, q⟩ q)<|.nil0) ?_
                        refine .exit q<|.seq<|.reg0 q (.o (ldG q sz33 ag33 q)<|.o (stB (cs0 := GE_c0) (cs := [i6 (rdl a0.Entry ((rdl a0.Sites ((rdl a0.Steps a2.Step).Site)).Proc)), .own 5 t2_4.length, u6 a1.Marks, .own 7 (([(rdl a0.Steps a2.Step).Site] ++ t2_9).length)]) (cs1 := [i6 (rdl a0.Entry ((rdl a0.Sites ((rdl a0.Steps a2.Step).Site)).Proc)), .own 5 t2_4.length, u6 a1.Marks, .own 7 (([(rdl a0.Steps a2.Step).Site] ++ t2_9).length)]) q q sz33 q ⟨Nat.le_of_ble_eq_true q, q⟩ q)<|.o (asV q)<|.nil0) ?_
                        replace h := h.symm
                        subst h
                        refine .k [(6, .cptr [i6 (rdl a0.Entry ((rdl a0.Sites ((rdl a0.Steps a2.Step).Site)).Proc)), .rows (t2_4.map (cInt .i64)), u6 a1.Marks, .rows (([(rdl a0.Steps a2.Step).Site] ++ t2_9).map (cInt .i64))] 0), (7, i6 0)] ⟨cFixP q q (.cons (.free q q)<|.cons (cFixO (l := t2_4) sl30 q q q q)<|.cons (.free q q)<|.cons (cFixO (l := ([(rdl a0.Steps a2.Step).Site] ++ t2_9)) sl23 q q q q)<|.nil), .free q q, trivial⟩ ?_
                        exact .ret q
                    · rw [if_neg c21] at h
                      refine .condF q (bn c21)<|.skip<|.exit q<|.seq<|.reg0 q (.o (ldG q sz33 ag33 q)<|.o (stB (cs0 := GE_c0) (cs := [i6 ((rdl a0.Steps a2.Step).To), .own 5 t2_4.length, u6 a1.Marks, .rows (t2_9.map (cInt .i64))]) (cs1 := [i6 ((rdl a0.Steps a2.Step).To), .own 5 t2_4.length, u6 a1.Marks, .rows (t2_9.map (cInt .i64))]) q q sz33 q ⟨Nat.le_of_ble_eq_true q, q⟩ q)<|.o (asV q)<|.nil0) ?_
                      replace h := h.symm
                      subst h
                      refine .k [(6, .cptr [i6 ((rdl a0.Steps a2.Step).To), .rows (t2_4.map (cInt .i64)), u6 a1.Marks, .rows (t2_9.map (cInt .i64))] 0), (7, i6 0)] ⟨cFixP q q (.cons (.free q q)<|.cons (cFixO (l := t2_4) sl30 q q q q)<|.cons (.free q q)<|.cons (.free q q)<|.nil), .free q q, trivial⟩ ?_
                      exact .ret q
def frames_Explore.j1 (x81 : Int) : ((List TState) × (List ((Int × Int × ByteArray) × Bool))) → (Rnd (((List TState) × (List ((Int × Int × ByteArray) × Bool)) × Int)) (((List TState) × (List ((Int × Int × ByteArray) × Bool)))) ((List TState) × Int)) → Prop := fun (x86, x87) z3 => z3 = .next (x86, x87, (IntKind.i64.wrap (x81 + 1)))
def frames_Explore.b3 (a0 : TGraph) (a4 : Int) (x25 : List TState) (x26 : Nat) (x28 : Int) (x65 : Int) (t288_3 : (List TMove)) : ((List TState) × (List ((Int × Int × ByteArray) × Bool)) × Int) → Rnd (((List TState) × (List ((Int × Int × ByteArray) × Bool)) × Int)) (((List TState) × (List ((Int × Int × ByteArray) × Bool)))) ((List TState) × Int) → Prop := fun (x79, x80, x81) z3 => if x81 < (t288_3.length : Int) then (((InR x81 t288_3.length)) ∧ ∃ t341_3 : TState × Int, (frames_do.f a0 (rdl (cutl x25 x28 (x25.length : Int)) x65) (rdl t288_3 x81) t341_3) ∧ if t341_3.2 = 0 then (∃ t343_2 : TKey, (frames_keyed.f t341_3.1 t343_2) ∧ if ((mget x80 (t343_2.node, t343_2.marks, t343_2.rest)).getD false) = true then (frames_Explore.j1 x81 (x79, x80) z3) else (if (x79.length : Int) ≥ a4 then (z3 = .ret ([], 3)) else (∃ t346_2 : TKey, (frames_keyed.f t341_3.1 t346_2) ∧ (((max x26 (Int.toNat (x25.length : Int))) ≤ x79.length)) ∧ ((Fits (x79.length + 1) 64)) ∧ frames_Explore.j1 x81 ((x79 ++ [t341_3.1]), (mput x80 (t346_2.node, t346_2.marks, t346_2.rest) true)) z3))) else (z3 = .ret ([], t341_3.2))) else (z3 = .exit (x79, x80))
def frames_Explore.b2 (a0 : TGraph) (a2 : List Int) (a4 : Int) (x25 : List TState) (x26 : Nat) (x28 : Int) : ((List TState) × (List ((Int × Int × ByteArray) × Bool)) × Int) → Rnd (((List TState) × (List ((Int × Int × ByteArray) × Bool)) × Int)) (((List TState) × (List ((Int × Int × ByteArray) × Bool)))) ((List TState) × Int) → Prop := fun (x63, x64, x65) z2 => if x65 < ((cutl x25 x28 (x25.length : Int)).length : Int) then (((InR x65 (cutl x25 x28 (x25.length : Int)).length)) ∧ ∃ t288_3 : (List TMove), (frames_moves.f a0 (rdl (cutl x25 x28 (x25.length : Int)) x65) a2 t288_3) ∧ ∃ o3 : Fin (((List TState) × (List ((Int × Int × ByteArray) × Bool)))) ((List TState) × Int), Loop (frames_Explore.b3 a0 a4 x25 x26 x28 x65 t288_3) (x63, x64, 0) o3 ∧ o3.on (fun (x84, x85) => z2 = .next (x84, x85, (IntKind.i64.wrap (x65 + 1)))) (fun r_ => z2 = .ret r_)) else (z2 = .exit (x63, x64))
def frames_Explore.b1 (a0 : TGraph) (a2 : List Int) (a4 : Int) : (Int × (List TState) × Nat × (List ((Int × Int × ByteArray) × Bool)) × Int) → Rnd ((Int × (List TState) × Nat × (List ((Int × Int × ByteArray) × Bool)) × Int)) (((List TState) × Nat)) ((List TState) × Int) → Prop := fun (x24, x25, x26, x27, x28) z1 => if ((decide (x24 > 0)) && (decide (x28 < (x25.length : Int)))) = true then (((Cut x28 (x25.length : Int) x25.length)) ∧ ∃ o2 : Fin (((List TState) × (List ((Int × Int × ByteArray) × Bool)))) ((List TState) × Int), Loop (frames_Explore.b2 a0 a2 a4 x25 x26 x28) (x25, x27, 0) o2 ∧ o2.on (fun (x75, x76) => z1 = .next ((IntKind.i64.wrap (x24 - 1)), x75, (max x26 (Int.toNat (x25.length : Int))), x76, (x25.length : Int))) (fun r_ => z1 = .ret r_)) else (z1 = .exit (x25, x26))
def frames_Explore.f (a0 : TGraph) (a1 : TState) (a2 : List Int) (a3 : Int) (a4 : Int) (r : (List TState) × Int) : Prop :=
  ∃ t2_2 : Int, (frames_Check.f a0 a1 t2_2) ∧ if t2_2 = 0 then (if ((decide (a3 < 0)) || ((decide (a3 > 100)) || ((decide (a4 < 1)) || ((decide (a4 > 20000)) || (decide ((a2.length : Int) > 8)))))) = true then (r = ([], 1)) else (∃ t6_4 : (List Int), (slices_Clone_int64.f a1.Env t6_4) ∧ ∃ t6_9 : (List Int), (slices_Clone_int.f a1.Stack t6_9) ∧ ∃ t7_2 : TKey, (frames_keyed.f a1 t7_2) ∧ ∃ o1 : Fin (((List TState) × Nat)) ((List TState) × Int), Loop (frames_Explore.b1 a0 a2 a4) (a3, [(TState.mk a1.Node t6_4 a1.Marks t6_9)], 0, (mput ([] : List ((Int × Int × ByteArray) × Bool)) (t7_2.node, t7_2.marks, t7_2.rest) true), 0) o1 ∧ o1.on (fun (x52, x53) => r = (x52, 0)) (fun r_ => r = r_))) else (r = ([], t2_2))
theorem frames_Explore.D {a0 a1 a2 a3 a4 r} (h : frames_Explore.f a0 a1 a2 a3 a4 r) : D Tryz.prog X (.callH 19 [.agg (TGraph.lit a0), .agg (TState.lit a1), .rows (a2.map (cInt .i64)), .val (.int .i64 a3), .val (.int .i64 a4)] [] (.tuple [.rows (r.1.map TState.cells), .val (.int .i64 r.2)]) []) := by
  unfold frames_Explore.f at h
  refine .enter 123 0 fn19 q q q<|.seq<|.room 0<|.room 0<|.reg0 q (.o (bxP (s := 10) (cs := (TGraph.lit a0)) q ⟨q, by decide, q⟩ q)<|.op 1 q (bxP (s := 4) (cs := (TState.lit a1)) q ⟨q, by decide, q⟩ q)<|.o (asV q)<|.o (asV q)<|.nil0)<|.seq<|.seq ?_
  obtain ⟨t2_2, g2_2, h⟩ := h
  refine .reg0 q (.o (ldG q sz29 ag29 q)<|.o (ldG q sz33 ag33 q)<|.c q go16 q q q (frames_Check.D g2_2)<|.a q<|.nil0)<|.seq<|.reg0 q (.o (mvV q)<|.o (neI q q)<|.nil0) ?_
  by_cases c1 : t2_2 = 0
  · rw [if_pos c1] at h
    refine .condF q (nf c1)<|.skip<|.seq<|.seq ?_
    refine .reg0 (e1 := listEnv [(2, .rows (a2.map (cInt .i64))), (3, i6 a3), (4, i6 a4), (5, .ptr 0 1 10 0 0), (6, .ptr 1 1 4 0 0), (47, bo ((decide (a3 < 0)) || ((decide (a3 > 100)) || ((decide (a4 < 1)) || ((decide (a4 > 20000)) || (decide ((a2.length : Int) > 8)))))))]) (H1 := [⟨10, [(TGraph.lit a0)], 0, none⟩, ⟨4, [(TState.lit a1)], 0, none⟩]) q ?_ ?_
    · refine .m q<|.o (ltI q q)<|.m q<|?_
      by_cases c2 : a3 < 0
      · exact (.n q (dt c2)<|.n q (dt c2)<|.o (pkTV q (dt c2) q)<|.m q<|.n q q<|.n q q<|.o (pkTV q q q)<|.m q<|.n q q<|.n q q<|.o (pkTV q q q)<|.m q<|.n q q<|.n q q<|.n q q<|.o (pkTV q q q)<|.nilL _ ⟨.free q q, .free q q, .free q q, .ptr q, .ptr q, cB q (mOrT (dt c2)), trivial⟩)
      · refine .g q (df c2) (mvV q)<|.g q (df c2) (gtI q q)<|.o (pkFV q (df c2) q)<|.m q<|?_
        by_cases c3 : a3 > 100
        · exact (.n q (dt c3)<|.n q (dt c3)<|.o (pkTV q (dt c3) q)<|.m q<|.n q q<|.n q q<|.o (pkTV q q q)<|.m q<|.n q q<|.n q q<|.n q q<|.o (pkTV q q q)<|.nilL _ ⟨.free q q, .free q q, .free q q, .ptr q, .ptr q, cB q (mOrF (df c2) (mOrT (dt c3))), trivial⟩)
        · refine .g q (df c3) (mvV q)<|.g q (df c3) (ltI q q)<|.o (pkFV q (df c3) q)<|.m q<|?_
          by_cases c4 : a4 < 1
          · exact (.n q (dt c4)<|.n q (dt c4)<|.o (pkTV q (dt c4) q)<|.m q<|.n q q<|.n q q<|.n q q<|.o (pkTV q q q)<|.nilL _ ⟨.free q q, .free q q, .free q q, .ptr q, .ptr q, cB q (mOrF (df c2) (mOrF (df c3) (mOrT (dt c4)))), trivial⟩)
          · refine .g q (df c4) (mvV q)<|.g q (df c4) (gtI q q)<|.o (pkFV q (df c4) q)<|.m q<|?_
            by_cases c5 : a4 > 20000
            · exact (.n q (dt c5)<|.n q (dt c5)<|.n q (dt c5)<|.o (pkTV q (dt c5) q)<|.nilL _ ⟨.free q q, .free q q, .free q q, .ptr q, .ptr q, cB q (mOrF (df c2) (mOrF (df c3) (mOrF (df c4) (mOrT (dt c5))))), trivial⟩)
            · exact (.g q (df c5) (mvR q)<|.g q (df c5) (lnR (l := a2) sl30 q)<|.g q (df c5) (gtI q q)<|.o (pkFV q (df c5) q)<|.nilL _ ⟨.free q q, .free q q, .free q q, .ptr q, .ptr q, cB q (mOrF (df c2) (mOrF (df c3) (mOrF (df c4) (mOrF (df c5) q)))), trivial⟩)
    by_cases c6 : ((decide (a3 < 0)) || ((decide (a3 > 100)) || ((decide (a4 < 1)) || ((decide (a4 > 20000)) || (decide ((a2.length : Int) > 8)))))) = true
    · rw [if_pos c6] at h
      refine .condT q c6<|.seq<|.reg0 q (.o (asV q)<|.o (asV q)<|.nil0) ?_
      replace h := h.symm
      subst h
      refine .k [(10, .rows (([] : List TState).map TState.cells)), (11, i6 1)] ⟨.nil, .free q q, trivial⟩ ?_
      exact .ret q
    · rw [if_neg c6] at h
      refine .condF q (nb c6)<|.skip<|.seq ?_
      obtain ⟨t6_4, g6_4, h⟩ := h
      obtain ⟨t6_9, g6_9, h⟩ := h
      refine .room 0 ?_
      refine .reg1 (e1 := listEnv [(2, .rows (a2.map (cInt .i64))), (3, i6 a3), (4, i6 a4), (5, .ptr 0 1 10 0 0), (6, .ptr 1 1 4 0 0), (13, .own 2 ([(TState.mk a1.Node t6_4 a1.Marks t6_9)].length))]) (H1 := [⟨10, [(TGraph.lit a0)], 0, none⟩, ⟨4, [(TState.lit a1)], 0, none⟩, ⟨4, [(TState.mk a1.Node t6_4 a1.Marks t6_9)].map TState.cells, 0, none⟩]) q ?_ ?_
      · exact .drawM [(12, 13, .own 2 ([(TState.mk a1.Node t6_4 a1.Marks t6_9)].length)), (11, 59, .own 2 ([(TState.mk a1.Node t6_4 a1.Marks t6_9)].length)), (10, 58, .agg [i6 a1.Node, .rows (t6_4.map (cInt .i64)), u6 a1.Marks, .rows (t6_9.map (cInt .i64))]), (9, 57, .rows (t6_9.map (cInt .i64))), (8, 56, .rows (a1.Stack.map (cInt .i64))), (7, 55, .ptr 1 1 4 0 3), (6, 54, u6 a1.Marks), (5, 53, .ptr 1 1 4 0 2), (4, 52, .rows (t6_4.map (cInt .i64))), (3, 51, .rows (a1.Env.map (cInt .i64))), (2, 50, .ptr 1 1 4 0 1), (1, 49, i6 a1.Node), (0, 48, .ptr 1 1 4 0 0)] [(11, 2, ⟨4, [(TState.mk a1.Node t6_4 a1.Marks t6_9)].map TState.cells, 0, none⟩)] [[], [0], [], [2], [3, 2], [], [5], [], [7], [8, 7, 4, 3, 2], [1, 0, 4, 3, 2, 6, 5, 9, 8, 7], [10, 1, 0, 4, 3, 2, 6, 5, 9, 8, 7], [11, 10, 1, 0, 4, 3, 2, 6, 5, 9, 8, 7]] (by rfl) (by rfl) (by rfl) (by exact ⟨oP (fun _ => faP fa33_0 q) q, oP (fun _ => ldP q sz3 ag3 q) q, oP (fun _ => faP fa33_1 q) q, oP (fun _ => ldP q sz30 ag30 q) q, fun S hS hD hn => .oneI hS hD hn q q (callee_of q go33 q) (.pure q q (slices_Clone_int64.D g6_4)) q q q, oP (fun _ => faP fa33_2 q) q, oP (fun _ => ldP q sz31 ag31 q) q, oP (fun _ => faP fa33_3 q) q, oP (fun _ => ldP q sz23 ag23 q) q, fun S hS hD hn => .oneI hS hD hn q q (callee_of q go34 q) (.pure q q (slices_Clone_int.D g6_9)) q q q, oP (fun _ => bldS (cs := [i6 a1.Node, .rows (t6_4.map (cInt .i64)), u6 a1.Marks, .rows (t6_9.map (cInt .i64))]) ze33 pl33 q q) q, oW 2 (fun _ => bldL (s := 4) (cs := [i6 a1.Node, .rows (t6_4.map (cInt .i64)), u6 a1.Marks, .rows (t6_9.map (cInt .i64))]) un47 sz33 ze33 ⟨by decide, q, by decide⟩ q q q q) q fun _ => q, oP (fun _ => asO q) q, trivial⟩) _ (by exact ⟨.free q q, .free q q, .free q q, .ptr q, .ptr q, .own q, trivial⟩) (by rfl)
      refine .seq ?_
      obtain ⟨t7_2, g7_2, h⟩ := h
      refine .room 0<|.reg0 q (.op 3 q (mkM (κ := Int × Int × ByteArray) (kf := kf75) (vf := (fun x => (bo x))) q)<|.o (ldG q sz33 ag33 q)<|.callI q (callee_of q go35 q) (.pure q q (frames_keyed.D g7_2))<|.o (inM (l := ([] : List ((Int × Int × ByteArray) × Bool))) (k := (t7_2.node, t7_2.marks, t7_2.rest)) (v := true) mp77 q q q q)<|.o (mvMp q)<|.o (asMp q)<|.nil0) ?_
      refine .seq<|.seq<|.reg0 q (.o (asV q)<|.nil0)<|.block<|.keepL [0, 2, 3] [(2, .rows (a2.map (cInt .i64))), (3, i6 a3), (4, i6 a4), (5, .ptr 0 1 10 0 0), (13, .own 1 ([(TState.mk a1.Node t6_4 a1.Marks t6_9)].length)), (14, .mp 2), (15, i6 0)] [⟨10, [(TGraph.lit a0)], 0, none⟩, ⟨4, [(TState.mk a1.Node t6_4 a1.Marks t6_9)].map TState.cells, 0, none⟩, (mpB kf75 (fun x => (bo x)) (mput ([] : List ((Int × Int × ByteArray) × Bool)) (t7_2.node, t7_2.marks, t7_2.rest) true))] (by decide) (by decide) ⟨.free q q, .free q q, .free q q, .ptr q, .own q, .mp q, .free q q, trivial⟩ ⟨⟨_, q, bcBox (all2_free q)⟩, ⟨_, q, bcRow (l := [(TState.mk a1.Node t6_4 a1.Marks t6_9)]) sl47 (Nat.le_refl _) q⟩, ⟨_, q, bcMap (l := (mput ([] : List ((Int × Int × ByteArray) × Bool)) (t7_2.node, t7_2.marks, t7_2.rest) true)) (fun _ => q) q⟩, trivial⟩ ?_
      obtain ⟨o1, hL1, h⟩ := h
      refine .loopB (frames_Explore.b1 a0 a2 a4) (fun (x24, x25, x26, x27, x28) => listEnv [(2, .rows (a2.map (cInt .i64))), (3, i6 x24), (4, i6 a4), (5, .ptr 0 1 10 0 0), (13, .own 1 x25.length), (14, .mp 2), (15, i6 x28)]) (fun (x24, x25, x26, x27, x28) => [⟨10, [(TGraph.lit a0)], 0, none⟩, ⟨4, x25.map TState.cells, x26, none⟩, (mpB kf75 (fun x => (bo x)) x27)]) (fun (x52, x53) => listEnv [(13, .own 0 x52.length)]) (fun (x52, x53) => [⟨4, x52.map TState.cells, x53, none⟩]) hL1 (fun r_ => r = r_) ?_ ?_ ?_
      · rintro ⟨x52, x53⟩ rfl
        try dsimp only [Fin.on] at h
        refine .seq<|.reg0 q (.o (mvO q)<|.o (asO q)<|.o (asV q)<|.nil0) ?_
        replace h := h.symm
        subst h
        refine .k [(10, .rows (x52.map TState.cells)), (11, i6 0)] ⟨cFixO (l := x52) sl47 q q q q, .free q q, trivial⟩ ?_
        exact .ret q
      · rintro r_ rfl
        exact h
      · rintro ⟨x24, x25, x26, x27, x28⟩ z1 h hn1 hx1 hr1
        dsimp only [frames_Explore.b1] at h
        refine .seq<|.seq ?_
        refine .reg0 (e1 := listEnv [(2, .rows (a2.map (cInt .i64))), (3, i6 x24), (4, i6 a4), (5, .ptr 0 1 10 0 0), (13, .own 1 x25.length), (14, .mp 2), (15, i6 x28), (71, bo ((decide (x24 > 0)) && (decide (x28 < (x25.length : Int)))))]) (H1 := [⟨10, [(TGraph.lit a0)], 0, none⟩, ⟨4, x25.map TState.cells, x26, none⟩, (mpB kf75 (fun x => (bo x)) x27)]) q ?_ ?_
        · refine .m q<|.o (gtI q q)<|.m q<|?_
          by_cases c71 : x24 > 0
          · exact (.g q (dt c71) (mvV q)<|.g q (dt c71) (mvO q)<|.g q (dt c71) (lnO (l := x25) sl47 q q q)<|.g q (dt c71) (ltI q q)<|.o (pkTV q (dt c71) q)<|.nilL _ ⟨.free q q, .free q q, .free q q, .ptr q, .own q, .mp q, .free q q, cB q (mAndT (dt c71) q), trivial⟩)
          · exact (.n q (df c71)<|.n q (df c71)<|.n q (df c71)<|.n q (df c71)<|.o (pkFV q (df c71) q)<|.nilL _ ⟨.free q q, .free q q, .free q q, .ptr q, .own q, .mp q, .free q q, cB q (mAndF (df c71)), trivial⟩)
        by_cases c72 : ((decide (x24 > 0)) && (decide (x28 < (x25.length : Int)))) = true
        · rw [if_pos c72] at h
          refine .condT q c72<|.skip<|.seq<|.block<|.seq<|.reg0 q (.o (mvO q)<|.o (lnO (l := x25) sl47 q q q)<|.o (asV q)<|.nil0)<|.seq<|.seq ?_
          obtain ⟨g197_3, h⟩ := h
          refine .reg0 q (.o (mvO q)<|.m q<|.m q<|.o (slO (l := x25) (h := Int.toNat (x25.length : Int)) (v := Int.toNat x28) sl47 q q q (bound_some q g197_3.1) (bound_some q g197_3.j0) (cut_le g197_3) (cut_le2 g197_3))<|.o (lnR (l := (cutl x25 x28 (x25.length : Int))) sl47 q)<|.m q<|.nil0)<|.block<|.keepL [0, 1, 2] [(2, .rows (a2.map (cInt .i64))), (3, i6 x24), (4, i6 a4), (5, .ptr 0 1 10 0 0), (13, .own 1 x25.length), (14, .mp 2), (16, i6 (x25.length : Int)), (79, .rows ((cutl x25 x28 (x25.length : Int)).map TState.cells)), (80, i6 ((cutl x25 x28 (x25.length : Int)).length : Int)), (81, i6 0)] [⟨10, [(TGraph.lit a0)], 0, none⟩, ⟨4, x25.map TState.cells, (max x26 (Int.toNat (x25.length : Int))), none⟩, (mpB kf75 (fun x => (bo x)) x27)] (by decide) (by decide) ⟨.free q q, .free q q, .free q q, .ptr q, .own q, .mp q, .free q q, .free q q, .free q q, .free q q, trivial⟩ ⟨⟨_, q, bcBox (all2_free q)⟩, ⟨_, q, bcRow (l := x25) sl47 (Nat.le_refl _) q⟩, ⟨_, q, bcMap (l := x27) (fun _ => q) q⟩, trivial⟩ ?_
          obtain ⟨o2, hL2, h⟩ := h
          refine .loopB (frames_Explore.b2 a0 a2 a4 x25 x26 x28) (fun (x63, x64, x65) => listEnv [(2, .rows (a2.map (cInt .i64))), (3, i6 x24), (4, i6 a4), (5, .ptr 0 1 10 0 0), (13, .own 1 x63.length), (14, .mp 2), (16, i6 (x25.length : Int)), (79, .rows ((cutl x25 x28 (x25.length : Int)).map TState.cells)), (80, i6 ((cutl x25 x28 (x25.length : Int)).length : Int)), (81, i6 x65)]) (fun (x63, x64, x65) => [⟨10, [(TGraph.lit a0)], 0, none⟩, ⟨4, x63.map TState.cells, (max x26 (Int.toNat (x25.length : Int))), none⟩, (mpB kf75 (fun x => (bo x)) x64)]) (fun (x75, x76) => listEnv [(2, .rows (a2.map (cInt .i64))), (3, i6 x24), (4, i6 a4), (5, .ptr 0 1 10 0 0), (13, .own 1 x75.length), (14, .mp 2), (16, i6 (x25.length : Int))]) (fun (x75, x76) => [⟨10, [(TGraph.lit a0)], 0, none⟩, ⟨4, x75.map TState.cells, (max x26 (Int.toNat (x25.length : Int))), none⟩, (mpB kf75 (fun x => (bo x)) x76)]) hL2 (fun r_ => z1 = .ret r_) ?_ ?_ ?_
          · rintro ⟨x75, x76⟩ rfl
            try dsimp only [Fin.on] at h
            refine .reg0 q (.m q<|.a q<|.nil0)<|.inBlock<|.reg0 q (.o (mvV q)<|.o (subI q q)<|.o (asV q)<|.nil0)<|.keepL [0, 1, 2] [(2, .rows (a2.map (cInt .i64))), (3, i6 (IntKind.i64.wrap (x24 - 1))), (4, i6 a4), (5, .ptr 0 1 10 0 0), (13, .own 1 x75.length), (14, .mp 2), (15, i6 (x25.length : Int))] [⟨10, [(TGraph.lit a0)], 0, none⟩, ⟨4, x75.map TState.cells, (max x26 (Int.toNat (x25.length : Int))), none⟩, (mpB kf75 (fun x => (bo x)) x76)] (by decide) (by decide) ⟨.free q q, .free q q, .free q q, .ptr q, .own q, .mp q, .free q q, trivial⟩ ⟨⟨_, q, bcBox (all2_free q)⟩, ⟨_, q, bcRow (l := x75) sl47 (Nat.le_refl _) q⟩, ⟨_, q, bcMap (l := x76) (fun _ => q) q⟩, trivial⟩ ?_
            exact hn1 _ h
          · rintro r_ rfl
            exact h
          · rintro ⟨x63, x64, x65⟩ z2 h hn2 hx2 hr2
            dsimp only [frames_Explore.b2] at h
            refine .seq<|.reg0 q (.o (ltI q q)<|.nil0)<|.seq ?_
            by_cases c103 : x65 < ((cutl x25 x28 (x25.length : Int)).length : Int)
            · rw [if_pos c103] at h
              refine .condT q (dt c103)<|.skip<|.seq<|.block<|.seq ?_
              obtain ⟨g287_0, h⟩ := h
              refine .room 0<|.reg0 q (.o (ixR (l := (cutl x25 x28 (x25.length : Int))) (lit := TState.lit) sl47 q q (fun _ => q) g287_0.1 g287_0.2)<|.o (ldCG q sz33 ag33 q)<|.op 3 q (alP (s := 4) ze33 ⟨q, by decide, q⟩ q)<|.o (stB (cs0 := GE_c0) (cs := (TState.lit (rdl (cutl x25 x28 (x25.length : Int)) x65))) (cs1 := (TState.lit (rdl (cutl x25 x28 (x25.length : Int)) x65))) q q sz33 q ⟨Nat.le_of_ble_eq_true q, q⟩ q)<|.nil0) ?_
              refine .seq ?_
              obtain ⟨t288_3, g288_3, h⟩ := h
              refine .reg0 q (.o (ldG q sz29 ag29 q)<|.o (ldG q sz33 ag33 q)<|.o (mvR q)<|.c q go36 q q q (frames_moves.D g288_3)<|.o (lnR (l := t288_3) sl52 q)<|.m q<|.nil0)<|.block<|.keepL [0, 1, 2, 3] [(2, .rows (a2.map (cInt .i64))), (3, i6 x24), (4, i6 a4), (5, .ptr 0 1 10 0 0), (13, .own 1 x63.length), (14, .mp 2), (16, i6 (x25.length : Int)), (18, .ptr 3 1 4 0 0), (79, .rows ((cutl x25 x28 (x25.length : Int)).map TState.cells)), (80, i6 ((cutl x25 x28 (x25.length : Int)).length : Int)), (81, i6 x65), (88, .rows (t288_3.map TMove.cells)), (89, i6 (t288_3.length : Int)), (90, i6 0)] [⟨10, [(TGraph.lit a0)], 0, none⟩, ⟨4, x63.map TState.cells, (max x26 (Int.toNat (x25.length : Int))), none⟩, (mpB kf75 (fun x => (bo x)) x64), ⟨4, [(TState.lit (rdl (cutl x25 x28 (x25.length : Int)) x65))], 0, none⟩] (by decide) (by decide) ⟨.free q q, .free q q, .free q q, .ptr q, .own q, .mp q, .free q q, .ptr q, .free q q, .free q q, .free q q, .free q q, .free q q, .free q q, trivial⟩ ⟨⟨_, q, bcBox (all2_free q)⟩, ⟨_, q, bcRow (l := x63) sl47 (Nat.le_refl _) q⟩, ⟨_, q, bcMap (l := x64) (fun _ => q) q⟩, ⟨_, q, bcBox (all2_free q)⟩, trivial⟩ ?_
              obtain ⟨o3, hL3, h⟩ := h
              refine .loopB (frames_Explore.b3 a0 a4 x25 x26 x28 x65 t288_3) (fun (x79, x80, x81) => listEnv [(2, .rows (a2.map (cInt .i64))), (3, i6 x24), (4, i6 a4), (5, .ptr 0 1 10 0 0), (13, .own 1 x79.length), (14, .mp 2), (16, i6 (x25.length : Int)), (18, .ptr 3 1 4 0 0), (79, .rows ((cutl x25 x28 (x25.length : Int)).map TState.cells)), (80, i6 ((cutl x25 x28 (x25.length : Int)).length : Int)), (81, i6 x65), (88, .rows (t288_3.map TMove.cells)), (89, i6 (t288_3.length : Int)), (90, i6 x81)]) (fun (x79, x80, x81) => [⟨10, [(TGraph.lit a0)], 0, none⟩, ⟨4, x79.map TState.cells, (max x26 (Int.toNat (x25.length : Int))), none⟩, (mpB kf75 (fun x => (bo x)) x80), ⟨4, [(TState.lit (rdl (cutl x25 x28 (x25.length : Int)) x65))], 0, none⟩]) (fun (x84, x85) => listEnv [(2, .rows (a2.map (cInt .i64))), (3, i6 x24), (4, i6 a4), (5, .ptr 0 1 10 0 0), (13, .own 1 x84.length), (14, .mp 2), (16, i6 (x25.length : Int)), (79, .rows ((cutl x25 x28 (x25.length : Int)).map TState.cells)), (80, i6 ((cutl x25 x28 (x25.length : Int)).length : Int)), (81, i6 x65)]) (fun (x84, x85) => [⟨10, [(TGraph.lit a0)], 0, none⟩, ⟨4, x84.map TState.cells, (max x26 (Int.toNat (x25.length : Int))), none⟩, (mpB kf75 (fun x => (bo x)) x85)]) hL3 (fun r_ => z2 = .ret r_) ?_ ?_ ?_
              · rintro ⟨x84, x85⟩ rfl
                try dsimp only [Fin.on] at h
                refine .inBlock<|.reg0 q (.o (addI q q)<|.o (mvV q)<|.nil0)<|.keepL [0, 1, 2] [(2, .rows (a2.map (cInt .i64))), (3, i6 x24), (4, i6 a4), (5, .ptr 0 1 10 0 0), (13, .own 1 x84.length), (14, .mp 2), (16, i6 (x25.length : Int)), (79, .rows ((cutl x25 x28 (x25.length : Int)).map TState.cells)), (80, i6 ((cutl x25 x28 (x25.length : Int)).length : Int)), (81, i6 (IntKind.i64.wrap (x65 + 1)))] [⟨10, [(TGraph.lit a0)], 0, none⟩, ⟨4, x84.map TState.cells, (max x26 (Int.toNat (x25.length : Int))), none⟩, (mpB kf75 (fun x => (bo x)) x85)] (by decide) (by decide) ⟨.free q q, .free q q, .free q q, .ptr q, .own q, .mp q, .free q q, .free q q, .free q q, .free q q, trivial⟩ ⟨⟨_, q, bcBox (all2_free q)⟩, ⟨_, q, bcRow (l := x84) sl47 (Nat.le_refl _) q⟩, ⟨_, q, bcMap (l := x85) (fun _ => q) q⟩, trivial⟩ ?_
                exact hn2 _ h
              · rintro r_ rfl
                exact h
              · rintro ⟨x79, x80, x81⟩ z3 h hn3 hx3 hr3
                dsimp only [frames_Explore.b3] at h
                refine .seq<|.reg0 q (.o (ltI q q)<|.nil0)<|.seq ?_
                by_cases c118 : x81 < (t288_3.length : Int)
                · rw [if_pos c118] at h
                  refine .condT q (dt c118)<|.skip<|.seq ?_
                  refine .consJ (fun s_ => frames_Explore.j1 x81 s_ z3) (fun (x86, x87) => listEnv [(2, .rows (a2.map (cInt .i64))), (3, i6 x24), (4, i6 a4), (5, .ptr 0 1 10 0 0), (13, .own 1 x86.length), (14, .mp 2), (16, i6 (x25.length : Int)), (18, .ptr 3 1 4 0 0), (79, .rows ((cutl x25 x28 (x25.length : Int)).map TState.cells)), (80, i6 ((cutl x25 x28 (x25.length : Int)).length : Int)), (81, i6 x65), (88, .rows (t288_3.map TMove.cells)), (89, i6 (t288_3.length : Int)), (90, i6 x81)]) (fun (x86, x87) => [⟨10, [(TGraph.lit a0)], 0, none⟩, ⟨4, x86.map TState.cells, (max x26 (Int.toNat (x25.length : Int))), none⟩, (mpB kf75 (fun x => (bo x)) x87), ⟨4, [(TState.lit (rdl (cutl x25 x28 (x25.length : Int)) x65))], 0, none⟩]) ?_ fun hJ1 => ?_
                  · rintro ⟨x86, x87⟩ h
                    unfold frames_Explore.j1 at h
                    try dsimp only at h
                    refine .reg0 q (.o (addI q q)<|.m q<|.nil0)<|.keepL [0, 1, 2, 3] [(2, .rows (a2.map (cInt .i64))), (3, i6 x24), (4, i6 a4), (5, .ptr 0 1 10 0 0), (13, .own 1 x86.length), (14, .mp 2), (16, i6 (x25.length : Int)), (18, .ptr 3 1 4 0 0), (79, .rows ((cutl x25 x28 (x25.length : Int)).map TState.cells)), (80, i6 ((cutl x25 x28 (x25.length : Int)).length : Int)), (81, i6 x65), (88, .rows (t288_3.map TMove.cells)), (89, i6 (t288_3.length : Int)), (90, i6 (IntKind.i64.wrap (x81 + 1)))] [⟨10, [(TGraph.lit a0)], 0, none⟩, ⟨4, x86.map TState.cells, (max x26 (Int.toNat (x25.length : Int))), none⟩, (mpB kf75 (fun x => (bo x)) x87), ⟨4, [(TState.lit (rdl (cutl x25 x28 (x25.length : Int)) x65))], 0, none⟩] (by decide) (by decide) ⟨.free q q, .free q q, .free q q, .ptr q, .own q, .mp q, .free q q, .ptr q, .free q q, .free q q, .free q q, .free q q, .free q q, .free q q, trivial⟩ ⟨⟨_, q, bcBox (all2_free q)⟩, ⟨_, q, bcRow (l := x86) sl47 (Nat.le_refl _) q⟩, ⟨_, q, bcMap (l := x87) (fun _ => q) q⟩, ⟨_, q, bcBox (all2_free q)⟩, trivial⟩ ?_
                    exact hn3 _ h
                  · refine .block<|.seq ?_
                    obtain ⟨g340_0, h⟩ := h
                    refine .room 0<|.reg0 q (.o (ixR (l := t288_3) (lit := TMove.lit) sl52 q q (fun _ => q) g340_0.1 g340_0.2)<|.o (ldCG q sz54 ag54 q)<|.op 4 q (alP (s := 2) ze54 ⟨q, by decide, q⟩ q)<|.o (stB (cs0 := [i6 0, i6 0]) (cs := (TMove.lit (rdl t288_3 x81))) (cs1 := (TMove.lit (rdl t288_3 x81))) q q sz54 q ⟨Nat.le_of_ble_eq_true q, q⟩ q)<|.nil0) ?_
                    refine .seq ?_
                    obtain ⟨t341_3, g341_3, h⟩ := h
                    refine .room 0<|.reg0 q (.o (ldG q sz29 ag29 q)<|.o (ldG q sz33 ag33 q)<|.o (ldG q sz54 ag54 q)<|.callI q (callee_of q go37 q) (.pure q q (frames_do.D g341_3))<|.o (mvT q)<|.o (exT q q)<|.o (exT q q)<|.op 5 q (alP (s := 4) ze33 ⟨q, by decide, q⟩ q)<|.o (stB (cs0 := GE_c0) (cs := (TState.lit t341_3.1)) (cs1 := (TState.lit t341_3.1)) q q sz33 q ⟨Nat.le_of_ble_eq_true q, q⟩ q)<|.o (asV q)<|.nil0) ?_
                    refine .seq<|.seq<|.reg0 q (.o (mvV q)<|.o (neI q q)<|.nil0) ?_
                    by_cases c122 : t341_3.2 = 0
                    · rw [if_pos c122] at h
                      refine .condF q (nf c122)<|.skip<|.seq<|.seq ?_
                      obtain ⟨t343_2, g343_2, h⟩ := h
                      refine .reg0 q (.o (mvMp q)<|.o (ldG q sz33 ag33 q)<|.c q go35 q q q (frames_keyed.D g343_2)<|.o (lkM (l := x80) (k := (t343_2.node, t343_2.marks, t343_2.rest)) mp77 q q q)<|.nil0) ?_
                      by_cases c123 : ((mget x80 (t343_2.node, t343_2.marks, t343_2.rest)).getD false) = true
                      · rw [if_pos c123] at h
                        refine .condT q c123<|.exit q<|.keepL [0, 1, 2, 3] [(2, .rows (a2.map (cInt .i64))), (3, i6 x24), (4, i6 a4), (5, .ptr 0 1 10 0 0), (13, .own 1 x79.length), (14, .mp 2), (16, i6 (x25.length : Int)), (18, .ptr 3 1 4 0 0), (79, .rows ((cutl x25 x28 (x25.length : Int)).map TState.cells)), (80, i6 ((cutl x25 x28 (x25.length : Int)).length : Int)), (81, i6 x65), (88, .rows (t288_3.map TMove.cells)), (89, i6 (t288_3.length : Int)), (90, i6 x81)] [⟨10, [(TGraph.lit a0)], 0, none⟩, ⟨4, x79.map TState.cells, (max x26 (Int.toNat (x25.length : Int))), none⟩, (mpB kf75 (fun x => (bo x)) x80), ⟨4, [(TState.lit (rdl (cutl x25 x28 (x25.length : Int)) x65))], 0, none⟩] (by decide) (by decide) ⟨.free q q, .free q q, .free q q, .ptr q, .own q, .mp q, .free q q, .ptr q, .free q q, .free q q, .free q q, .free q q, .free q q, .free q q, trivial⟩ ⟨⟨_, q, bcBox (all2_free q)⟩, ⟨_, q, bcRow (l := x79) sl47 (Nat.le_refl _) q⟩, ⟨_, q, bcMap (l := x80) (fun _ => q) q⟩, ⟨_, q, bcBox (all2_free q)⟩, trivial⟩ ?_
                        exact hJ1 _ h
                      · rw [if_neg c123] at h
                        refine .condF q (nb c123)<|.skip<|.seq<|.seq<|.reg0 q (.o (mvO q)<|.o (lnO (l := x79) sl47 q q q)<|.o (mvV q)<|.o (geI q q)<|.nil0) ?_
                        by_cases c124 : (x79.length : Int) ≥ a4
                        · rw [if_pos c124] at h
                          refine .condT q (dt c124)<|.seq<|.reg0 q (.o (asV q)<|.o (asV q)<|.nil0) ?_
                          have q175 := hr3 _ h
                          have q176 := hr2 _ q175
                          have q177 := hr1 _ q176
                          replace q177 := q177.symm
                          subst q177
                          refine .k [(10, .rows (([] : List TState).map TState.cells)), (11, i6 3)] ⟨.nil, .free q q, trivial⟩ ?_
                          exact .ret q
                        · rw [if_neg c124] at h
                          refine .condF q (df c124)<|.skip<|.seq ?_
                          obtain ⟨t346_2, g346_2, h⟩ := h
                          refine .reg0 q (.o (mvMp q)<|.o (ldG q sz33 ag33 q)<|.c q go35 q q q (frames_keyed.D g346_2)<|.o (upM (l := x80) (k := (t346_2.node, t346_2.marks, t346_2.rest)) (v := true) mp77 q q q q)<|.nil0) ?_
                          obtain ⟨g347_3f, h⟩ := h
                          obtain ⟨g347_3, h⟩ := h
                          refine .room 0<|.room 0<|.reg0 q (.o (mvO q)<|.o (ldG q sz33 ag33 q)<|.op 6 q (bldL (s := 4) (cs := [i6 t341_3.1.Node, .rows (t341_3.1.Env.map (cInt .i64)), u6 t341_3.1.Marks, .rows (t341_3.1.Stack.map (cInt .i64))]) un47 sz33 ze33 ⟨by decide, q, by decide⟩ q q q q)<|.o (ap1 (l := x79) t341_3.1 sl47 q q q g347_3f (elems_own (l := [t341_3.1]) q q) g347_3)<|.o (asO q)<|.nil0) ?_
                          refine .inBlock<|.keepL [0, 1, 2, 3] [(2, .rows (a2.map (cInt .i64))), (3, i6 x24), (4, i6 a4), (5, .ptr 0 1 10 0 0), (13, .own 1 ((x79 ++ [t341_3.1]).length)), (14, .mp 2), (16, i6 (x25.length : Int)), (18, .ptr 3 1 4 0 0), (79, .rows ((cutl x25 x28 (x25.length : Int)).map TState.cells)), (80, i6 ((cutl x25 x28 (x25.length : Int)).length : Int)), (81, i6 x65), (88, .rows (t288_3.map TMove.cells)), (89, i6 (t288_3.length : Int)), (90, i6 x81)] [⟨10, [(TGraph.lit a0)], 0, none⟩, ⟨4, (x79 ++ [t341_3.1]).map TState.cells, (max x26 (Int.toNat (x25.length : Int))), none⟩, (mpB kf75 (fun x => (bo x)) (mput x80 (t346_2.node, t346_2.marks, t346_2.rest) true)), ⟨4, [(TState.lit (rdl (cutl x25 x28 (x25.length : Int)) x65))], 0, none⟩] (by decide) (by decide) ⟨.free q q, .free q q, .free q q, .ptr q, .own q, .mp q, .free q q, .ptr q, .free q q, .free q q, .free q q, .free q q, .free q q, .free q q, trivial⟩ ⟨⟨_, q, bcBox (all2_free q)⟩, ⟨_, q, bcRow (l := (x79 ++ [t341_3.1])) sl47 (Nat.le_refl _) q⟩, ⟨_, q, bcMap (l := (mput x80 (t346_2.node, t346_2.marks, t346_2.rest) true)) (fun _ => q) q⟩, ⟨_, q, bcBox (all2_free q)⟩, trivial⟩ ?_
                          exact hJ1 _ h
                    · rw [if_neg c122] at h
                      refine .condT q (nt c122)<|.seq<|.reg0 q (.o (mvV q)<|.o (asV q)<|.o (asV q)<|.nil0) ?_
                      have q178 := hr3 _ h
                      have q179 := hr2 _ q178
                      have q180 := hr1 _ q179
                      replace q180 := q180.symm
                      subst q180
                      refine .k [(10, .rows (([] : List TState).map TState.cells)), (11, i6 t341_3.2)] ⟨.nil, .free q q, trivial⟩ ?_
                      exact .ret q
                · rw [if_neg c118] at h
                  refine .condF q (df c118)<|.exit q<|.keepL [0, 1, 2] [(2, .rows (a2.map (cInt .i64))), (3, i6 x24), (4, i6 a4), (5, .ptr 0 1 10 0 0), (13, .own 1 x79.length), (14, .mp 2), (16, i6 (x25.length : Int)), (79, .rows ((cutl x25 x28 (x25.length : Int)).map TState.cells)), (80, i6 ((cutl x25 x28 (x25.length : Int)).length : Int)), (81, i6 x65)] [⟨10, [(TGraph.lit a0)], 0, none⟩, ⟨4, x79.map TState.cells, (max x26 (Int.toNat (x25.length : Int))), none⟩, (mpB kf75 (fun x => (bo x)) x80)] (by decide) (by decide) ⟨.free q q, .free q q, .free q q, .ptr q, .own q, .mp q, .free q q, .free q q, .free q q, .free q q, trivial⟩ ⟨⟨_, q, bcBox (all2_free q)⟩, ⟨_, q, bcRow (l := x79) sl47 (Nat.le_refl _) q⟩, ⟨_, q, bcMap (l := x80) (fun _ => q) q⟩, trivial⟩ ?_
                  exact hx3 _ h
            · rw [if_neg c103] at h
              refine .condF q (df c103)<|.exit q<|.keepL [0, 1, 2] [(2, .rows (a2.map (cInt .i64))), (3, i6 x24), (4, i6 a4), (5, .ptr 0 1 10 0 0), (13, .own 1 x63.length), (14, .mp 2), (16, i6 (x25.length : Int))] [⟨10, [(TGraph.lit a0)], 0, none⟩, ⟨4, x63.map TState.cells, (max x26 (Int.toNat (x25.length : Int))), none⟩, (mpB kf75 (fun x => (bo x)) x64)] (by decide) (by decide) ⟨.free q q, .free q q, .free q q, .ptr q, .own q, .mp q, .free q q, trivial⟩ ⟨⟨_, q, bcBox (all2_free q)⟩, ⟨_, q, bcRow (l := x63) sl47 (Nat.le_refl _) q⟩, ⟨_, q, bcMap (l := x64) (fun _ => q) q⟩, trivial⟩ ?_
              exact hx2 _ h
        · rw [if_neg c72] at h
          refine .condF q (nb c72)<|.exit q<|.keepL [1] [(13, .own 0 x25.length)] [⟨4, x25.map TState.cells, x26, none⟩] (by decide) (by decide) ⟨.own q, trivial⟩ ⟨⟨_, q, bcRow (l := x25) sl47 (Nat.le_refl _) q⟩, trivial⟩ ?_
          exact hx1 _ h
  · rw [if_neg c1] at h
    refine .condT q (nt c1)<|.seq<|.reg0 q (.o (mvV q)<|.o (asV q)<|.o (asV q)<|.nil0) ?_
    replace h := h.symm
    subst h
    refine .k [(10, .rows (([] : List TState).map TState.cells)), (11, i6 t2_2)] ⟨.nil, .free q q, trivial⟩ ?_
    exact .ret q
def r21_in.f (a0 : Int) (a1 : Int) (r : Bool) : Prop :=
  r = ((decide (a0 ≥ 0)) && (decide (a0 < a1)))
theorem r21_in.D {a0 a1 r} (h : r21_in.f a0 a1 r) : D Tryz.prog X (.callH 50 [.val (.int .i64 a0), .val (.int .i64 a1)] [] (.val (.bool r)) []) := by
  unfold r21_in.f at h
  refine .enter 12 0 fn50 q q q<|.seq<|.reg0 q (.o (asV q)<|.nil0)<|.seq ?_
  refine .reg0 (e1 := listEnv [(4, bo ((decide (a0 ≥ 0)) && (decide (a0 < a1))))]) (H1 := []) q ?_ ?_
  · refine .m q<|.o (geI q q)<|.m q<|?_
    by_cases c1 : a0 ≥ 0
    · exact (.g q (dt c1) (mvV q)<|.g q (dt c1) (mvV q)<|.g q (dt c1) (ltI q q)<|.o (pkTV q (dt c1) q)<|.a q<|.nilL _ ⟨cB q (mAndT (dt c1) q), trivial⟩)
    · exact (.n q (df c1)<|.n q (df c1)<|.n q (df c1)<|.o (pkFV q (df c1) q)<|.a q<|.nilL _ ⟨cB q (mAndF (df c1)), trivial⟩)
  replace h := h.symm
  subst h
  refine .kf [(4, bo ((decide (a0 ≥ 0)) && (decide (a0 < a1))))] q q ?_
  exact .ret q
end Go.RM.Tryz
